/- The evaluator's words: types of contents, contents, the forms of slots, and the evaluator itself (no memory in it). -/
import Derived.Calls
import Derived.KernelRfl
import Derived.Below
import Derived.Deep.AppendSrc
import Derived.ChangeKeysEq
import Derived.Laws.BytesString
namespace Go.Ev

/-- The types of contents. -/
inductive Ty where
  | int (k : IntKind) | bool | str | sl (e : Ty) | unit | prod (a b : Ty) | ptr (e : Ty) | fn (f : Nat) (c : Ty) | fnu

@[reducible] def El : Ty → Type
  | .int _ => Int
  | .bool => Bool
  | .str => ByteArray
  | .sl e => List (El e)
  | .unit => Unit
  | .prod a b => El a × El b
  | .ptr e => El e
  | .fn _ c => El c
  | .fnu => Option Nat

def kbeq : IntKind → IntKind → Bool
  | .i8, .i8 | .i16, .i16 | .i32, .i32 | .i64, .i64 | .u8, .u8 | .u16, .u16 | .u32, .u32 | .u64, .u64 => true
  | _, _ => false

def Ty.beq : Ty → Ty → Bool
  | .int k, .int j => kbeq k j
  | .bool, .bool | .str, .str | .unit, .unit | .fnu, .fnu => true
  | .sl a, .sl b | .ptr a, .ptr b => a.beq b
  | .prod a b, .prod c d => a.beq c && b.beq d
  | .fn f a, .fn g b => f.beq g && a.beq b
  | _, _ => false

theorem kbeq_eq {k j : IntKind} (h : kbeq k j = true) : k = j := by cases k <;> cases j <;> simp [kbeq] at h ⊢

theorem Ty.eq_of_beq : ∀ {a b : Ty}, a.beq b = true → a = b
  | .int k, b, h => by cases b <;> simp [Ty.beq] at h; rw [kbeq_eq h]
  | .bool, b, h => by cases b <;> simp [Ty.beq] at h; rfl
  | .fnu, b, h => by cases b <;> simp [Ty.beq] at h; rfl
  | .str, b, h => by cases b <;> simp [Ty.beq] at h; rfl
  | .unit, b, h => by cases b <;> simp [Ty.beq] at h; rfl
  | .sl a, b, h => by cases b <;> simp [Ty.beq] at h; rw [Ty.eq_of_beq h]
  | .ptr a, b, h => by cases b <;> simp [Ty.beq] at h; rw [Ty.eq_of_beq h]
  | .prod a b, c, h => by cases c <;> simp [Ty.beq] at h; rw [Ty.eq_of_beq h.1, Ty.eq_of_beq h.2]
  | .fn f a, c, h => by cases c <;> simp [Ty.beq] at h; rw [Ty.eq_of_beq h.2, h.1]

def Ty.size : Ty → Nat
  | .unit => 0
  | .prod a b => a.size + b.size
  | _ => 1

def Ty.agg : Ty → Bool
  | .unit | .prod _ _ => true
  | _ => false

/-- No slice, pointer or closure in it: nothing of memory. -/
def Ty.flat : Ty → Bool
  | .sl _ | .ptr _ | .fn _ _ => false
  | .prod a b => a.flat && b.flat
  | _ => true

def zeroEl : (t : Ty) → Option (El t)
  | .int _ => some (0 : Int)
  | .bool => some false
  | .str => some (⟨#[]⟩ : ByteArray)
  | .sl _ => some []
  | .unit => some ()
  | .prod a b => match zeroEl a, zeroEl b with
    | some x, some y => some (x, y)
    | _, _ => none
  | .ptr _ => none
  | .fn _ _ => none
  | .fnu => some none

/-- What is owned of a content: at each slice. -/
inductive Fl where
  | no | own (g : Option Nat) (e : Fl) | gone | pr (a b : Fl)

def Fl.l : Fl → Fl
  | .pr a _ => a
  | .gone => .gone
  | _ => .no
def Fl.r : Fl → Fl
  | .pr _ b => b
  | .gone => .gone
  | _ => .no

/-- A slice of it is owned. -/
def hasOwn : Ty → Fl → Bool
  | .sl _, .own _ _ => true
  | .prod a b, φ => hasOwn a φ.l || hasOwn b φ.r
  | _, _ => false
/-- No part of it was moved away. -/
def clean : Ty → Fl → Bool
  | .sl _, .gone => false
  | .sl e, .own _ φ => clean e φ
  | .prod a b, φ => clean a φ.l && clean b φ.r
  | _, _ => true
/-- All its slices are owned, to the bottom. -/
def full : Ty → Fl → Bool
  | .sl e, .own _ φ => full e φ
  | .sl _, _ => false
  | .ptr _, _ => false
  | .fn _ _, _ => false
  | .prod a b, φ => full a φ.l && full b φ.r
  | _, _ => true
/-- The flags of a content all of whose slices are nil. -/
def fullFl : Ty → Fl
  | .sl e => .own none (fullFl e)
  | .prod a b => .pr (fullFl a) (fullFl b)
  | _ => .no
/-- Flags that say nothing where there is no slice, and that lose the marks. -/
def norm : Ty → Fl → Fl
  | .sl e, .own _ φ => .own none (norm e φ)
  | .sl _, .gone => .gone
  | .prod a b, φ => if (Ty.prod a b).flat then .no else .pr (norm a φ.l) (norm b φ.r)
  | _, _ => .no
def Fl.beq : Fl → Fl → Bool
  | .no, .no | .gone, .gone => true
  | .own none a, .own none b => a.beq b
  | .pr a b, .pr c d => a.beq c && b.beq d
  | _, _ => false

/-- A content with its type. -/
structure Ct where
  t : Ty
  x : El t
/-- A content with its type and its flags. -/
structure Res where
  t : Ty
  φ : Fl
  x : El t

def castTo (t : Ty) {u : Ty} (x : El u) : Option (El t) :=
  if h : Ty.beq u t = true then some (Ty.eq_of_beq h ▸ x) else none
def Ct.to (c : Ct) (t : Ty) : Option (El t) := castTo t c.x

/-- What a slot holds. -/
inductive AV where
  | v (t : Ty) (φ : Fl) (x : El t)                -- a content; owned where φ says so, permanent elsewhere
  | bx (g : Option Nat) (t : Ty) (φ : Fl) (x : El t)     -- the pointer to a variable of the call's own, and what it holds
  | bw (s : Nat) (t : Ty) (x : El t)             -- a content that leads into what slot s owns
  | al (s : Nat) (p : List Bool)                 -- the same value as the part p of what slot s owns
  | pl (s : Nat) (p : List Bool)                 -- a pointer to the part p of the variable of slot s
  | pe (s : Nat) (p : List Bool) (i : Int) (e : Ty) (x : El e) (q : List Bool)   -- a pointer to the part q of element i (now x) of the slice at part p of slot s
  | pw (s : Nat) (p : List Bool) (i : Int) (e : Ty)     -- a pointer to the whole of element i, whatever it now holds
  | el (s : Nat) (t : Ty) (x : El t) (p : List Bool) (i : Int) (e : Ty) (y : El e) (q : List Bool)   -- the value of the part q of element i of the slice at part p of slot s
  | fn (f : Nat) (caps : List AV)
  | tup (l : List Res)
  | nil
  | dead

abbrev St := List AV
def St.at (st : St) (s : Nat) : AV := st.getD s .dead

/-- The part p of a content (true: left). -/
def getP : (p : List Bool) → (t : Ty) → Fl → El t → Option Res
  | [], t, φ, x => some ⟨t, φ, x⟩
  | true :: p, .prod a _, φ, x => getP p a φ.l x.1
  | false :: p, .prod _ b, φ, x => getP p b φ.r x.2
  | _, _, _, _ => none
def partOff : List Bool → Ty → Option (Nat × Ty)
  | [], t => some (0, t)
  | true :: p, .prod a _ => partOff p a
  | false :: p, .prod a b => match partOff p b with
    | some (o, t) => some (a.size + o, t)
    | none => none
  | _, _ => none

/-- The content with another part p. -/
def setP : (p : List Bool) → (t : Ty) → Fl → El t → Res → Option Res
  | [], t, _, _, r => match castTo t r.x with
    | some y => some ⟨t, r.φ, y⟩
    | none => none
  | true :: p, .prod a b, φ, x, r => match setP p a φ.l x.1 r with
    | some z => match castTo a z.x with
      | some y => some ⟨.prod a b, .pr z.φ φ.r, (y, x.2)⟩
      | none => none
    | none => none
  | false :: p, .prod a b, φ, x, r => match setP p b φ.r x.2 r with
    | some z => match castTo b z.x with
      | some y => some ⟨.prod a b, .pr φ.l z.φ, (x.1, y)⟩
      | none => none
    | none => none
  | _, _, _, _, _ => none
/-- Flags: the slices of a part are gone. -/
def goneFl : Ty → Fl → Fl
  | .sl _, .own _ _ => .gone
  | .prod a b, φ => .pr (goneFl a φ.l) (goneFl b φ.r)
  | _, φ => φ
def goneP : (p : List Bool) → (t : Ty) → Fl → Fl
  | [], t, φ => goneFl t φ
  | true :: p, .prod a _, φ => .pr (goneP p a φ.l) φ.r
  | false :: p, .prod _ b, φ => .pr φ.l (goneP p b φ.r)
  | _, _, φ => φ
/-- The path of field j in a struct's content. -/
def fieldPath : Nat → List Bool
  | 0 => [true]
  | n + 1 => false :: fieldPath n

def obind {α β : Type} (o : Option α) (K : α → Option β) : Option β := match o with
  | some x => K x
  | none => none
/-- An element: none where the index is out of bounds. -/
def rdAt {α : Type} (xs : List α) (i : Int) : Option α := if 0 ≤ i then xs[i.toNat]? else none
def btAt (s : ByteArray) (i : Int) : Option Int := if 0 ≤ i then (s.data.toList[i.toNat]?).map fun b => (b.toNat : Int) else none
/-- The string with these bytes. -/
def bytesOf (ns : List Int) : ByteArray := ns.foldl (fun r n => r.push (UInt8.ofNat n.toNat)) ByteArray.empty
/-- A test that must hold. -/
def guardB {β : Type} (b : Bool) (K : Option β) : Option β := match b with
  | true => K
  | false => none

/-- The owner behind slot s. -/
def ownerAt (look : Nat → AV) (s : Nat) : Option Res := match look s with
  | .v t φ x => some ⟨t, φ, x⟩
  | .bx _ t φ x => some ⟨t, φ, x⟩
  | _ => none

/-- An operand, looked up: the slot's form as a copy has it; its content (for a pointer: what it points to); does it lead into what is owned; the owner. -/
structure RO where
  cp : AV
  ct : Option Ct
  ow : Bool
  at_ : Nat
  ty : Option Ty := none   -- the type of what a pointer to what is owned points to

def RO.none_ : RO := ⟨.dead, none, true, 0, none⟩

def ofRes (s : Nat) (cp : AV) : Option Res → RO
  | some r => ⟨cp, if clean r.t r.φ then some ⟨r.t, r.x⟩ else none, hasOwn r.t r.φ, s, some r.t⟩
  | none => ⟨cp, none, true, s, none⟩

/-- A closed capture. -/
def capCt (look : Nat → AV) : AV → Option (Ct × Bool)
  | .v t φ x => if !t.agg && clean t φ then some (⟨t, x⟩, hasOwn t φ) else none
  | .pl s p => match (ownerAt look s).bind fun r => getP p r.t r.φ r.x with
    | some r => if clean r.t r.φ then some (⟨.ptr r.t, r.x⟩, true) else none
    | none => none
  | _ => none
def capsCt (look : Nat → AV) : List AV → Option (Ct × Bool)
  | [] => some (⟨.unit, ()⟩, false)
  | c :: cs => match capCt look c, capsCt look cs with
    | some (a, b), some (r, b') => some (⟨.prod a.t r.t, (a.x, r.x)⟩, b || b')
    | _, _ => none

def resolve (look : Nat → AV) (s : Nat) : RO :=
  match look s with
  | .v t φ x => match hasOwn t φ with
    | true => ofRes s (.al s []) (some ⟨t, φ, x⟩)
    | false => match clean t φ with
      | true => ⟨.v t .no x, some ⟨t, x⟩, false, s, none⟩
      | false => .none_
  | .bx _ t φ x => ofRes s (.pl s []) (some ⟨t, φ, x⟩)
  | .bw u t x => ⟨.bw u t x, some ⟨t, x⟩, true, u, none⟩
  | .al u p => ofRes u (.al u p) ((ownerAt look u).bind fun r => getP p r.t r.φ r.x)
  | .pl u p => ofRes u (.pl u p) ((ownerAt look u).bind fun r => getP p r.t r.φ r.x)
  | .pe u p i e x q => match (ownerAt look u).bind fun r => getP p r.t r.φ r.x with
    | some ⟨.sl e', .own _ φ, _⟩ => match castTo e' x with
      | some y => ofRes u (.pe u p i e x q) (getP q e' φ y)
      | none => .none_
    | _ => .none_
  | .fn f caps => match capsCt look caps with
    | some (c, b) => ⟨.fn f caps, some ⟨.fn f c.t, c.x⟩, b, s, none⟩
    | none => ⟨.fn f caps, none, true, s, none⟩
  | .tup l => match l.any fun r => hasOwn r.t r.φ with
    | false => ⟨.tup l, none, false, s, none⟩
    | true => .none_
  | .pw _ _ _ _ => .none_
  | .el u t x _ _ _ _ _ => ⟨.bw u t x, some ⟨t, x⟩, true, u, none⟩
  | .nil => ⟨.nil, none, false, s, none⟩
  | .dead => .none_

def constCt : Value → AV
  | .int k n => .v (.int k) .no n
  | .bool b => .v .bool .no b
  | .string s => .v .str .no s
  | .slice none 0 0 => .nil
  | _ => .dead
def opd (look : Nat → AV) : Operand → RO
  | .tmp s => resolve look s
  | .const c => match constCt c with
    | .v t φ x => ⟨.v t φ x, some ⟨t, x⟩, false, 0, none⟩
    | .nil => ⟨.nil, none, false, 0, none⟩
    | _ => .none_
  | .func f => ⟨.fn f [], some ⟨.fn f .unit, ()⟩, false, 0, none⟩
  | .global _ => .none_

/-- The content of what is no pointer to what is owned. -/
def RO.vc (o : RO) : Option Ct := match o.cp with
  | .pl _ _ => none
  | .pe _ _ _ _ _ _ => none
  | _ => o.ct

/-- A nil slice has the type that is wanted. -/
def RO.as (o : RO) (t : Option Ty) : RO := match o.cp, t with
  | .nil, some (.sl e) => ⟨.v (.sl e) .no [], some ⟨.sl e, []⟩, false, 0, none⟩
  | _, _ => o

/-- As an element of a list of functions. -/
def RO.asF (o : RO) (t : Ty) : RO := match o.cp, t with
  | .fn f [], .fnu => ⟨.v .fnu .no (some f), some ⟨.fnu, some f⟩, false, 0, none⟩
  | _, _ => o.as (some t)

/-- What the evaluator knows beside the code: types' contents by their numbers, bytes of a slice type's elements, contracts. -/
structure Env where
  τ : TypeId → Option Ty
  by_ : TypeId → Nat
  Γ : Nat → List Ct → {β : Type} → (List Res → Option β) → Option β
  W : Nat → Bool := fun _ => false
  wk : Nat → Bool := fun _ => false
  Φ : Nat → List Ct → {β : Type} → (List Res → Option β) → Option β := fun _ _ {_} _ => none
  ΓW : Nat → (t : Ty) → El t → List Ct → {β : Type} → (List Res → El t → Option β) → Option β := fun _ _ _ _ {_} _ => none

section
variable {β : Type}

def intBin (op : BinOp) (k : IntKind) (x y : Int) (K : AV → Option β) : Option β :=
  match op with
  | .add => K (.v (.int k) .no (k.wrap (x + y)))
  | .sub => K (.v (.int k) .no (k.wrap (x - y)))
  | .mul => K (.v (.int k) .no (k.wrap (x * y)))
  | .quo => guardB (!(y == 0)) (K (.v (.int k) .no (k.wrap (x.tdiv y))))
  | .rem => guardB (!(y == 0)) (K (.v (.int k) .no (x.tmod y)))
  | .and => K (.v (.int k) .no (k.wrap (BitVec.ofInt k.bits x &&& BitVec.ofInt k.bits y).toNat))
  | .or => K (.v (.int k) .no (k.wrap (BitVec.ofInt k.bits x ||| BitVec.ofInt k.bits y).toNat))
  | .xor => K (.v (.int k) .no (k.wrap (BitVec.ofInt k.bits x ^^^ BitVec.ofInt k.bits y).toNat))
  | .andNot => K (.v (.int k) .no (k.wrap (BitVec.ofInt k.bits x &&& ~~~(BitVec.ofInt k.bits y)).toNat))
  | .eql => K (.v .bool .no (x == y))
  | .neq => K (.v .bool .no (x != y))
  | .lss => K (.v .bool .no (decide (x < y)))
  | .leq => K (.v .bool .no (decide (x ≤ y)))
  | .gtr => K (.v .bool .no (decide (x > y)))
  | .geq => K (.v .bool .no (decide (x ≥ y)))
  | _ => none
def shiftBin (op : BinOp) (k : IntKind) (x y : Int) (K : AV → Option β) : Option β :=
  match op with
  | .shl => guardB (decide (0 ≤ y)) (K (.v (.int k) .no (k.wrap (x * 2 ^ (min y.toNat k.bits)))))
  | .shr => guardB (decide (0 ≤ y)) (K (.v (.int k) .no (x.fdiv (2 ^ (min y.toNat k.bits)))))
  | _ => none
def strBin (op : BinOp) (x y : ByteArray) (K : AV → Option β) : Option β :=
  match op with
  | .add => guardB (decide (x.size + y.size ≤ 9223372036854775807)) (K (.v .str .no (x ++ y)))
  | .eql => K (.v .bool .no (x.toList == y.toList))
  | .neq => K (.v .bool .no (!(x.toList == y.toList)))
  | .lss => K (.v .bool .no (Op.bytesLess x.toList y.toList))
  | .leq => K (.v .bool .no (Op.bytesLess x.toList y.toList || x.toList == y.toList))
  | .gtr => K (.v .bool .no (!(Op.bytesLess x.toList y.toList || x.toList == y.toList)))
  | .geq => K (.v .bool .no (!(Op.bytesLess x.toList y.toList)))
  | _ => none
def bin (op : BinOp) (tx : Option Ty) (a b : Ct) (K : AV → Option β) : Option β :=
  match a, b with
  | ⟨.int k, x⟩, ⟨.int j, y⟩ => match op with
    | .shl | .shr => shiftBin op k x y K
    | _ => match kbeq k j with
      | true => intBin op k x y K
      | false => none
  | ⟨.str, x⟩, ⟨.str, y⟩ => strBin op x y K
  | ⟨.bool, x⟩, ⟨.bool, y⟩ => match op, tx with
    | .eql, some .bool => K (.v .bool .no (x == y))
    | .neq, some .bool => K (.v .bool .no (!(x == y)))
    | _, _ => none
  | _, _ => none
def un (op : UnOp) (a : Ct) (K : AV → Option β) : Option β :=
  match op, a with
  | .neg, ⟨.int k, x⟩ => K (.v (.int k) .no (k.wrap (0 - x)))
  | .xor, ⟨.int k, x⟩ => K (.v (.int k) .no (k.wrap (BitVec.ofInt k.bits (if k.signed then -1 else k.max) ^^^ BitVec.ofInt k.bits x).toNat))
  | .not, ⟨.bool, x⟩ => K (.v .bool .no (!x))
  | _, _ => none

def asInt (o : RO) : Option (IntKind × Int) := match o.vc with
  | some ⟨.int k, x⟩ => some (k, x)
  | _ => none

/-- A content as a slot's form: borrowed where it leads into what slot s owns. -/
def lent (ow : Bool) (s : Nat) (t : Ty) (x : El t) : AV :=
  match ow && !t.flat with
  | true => .bw s t x
  | false => .v t .no x

/-- A slice or string cut. -/
def cutTests (lo hi : Option Int) (n : Nat) (K : Int → Int → Option β) : Option β :=
  guardB (match lo with | some l => decide (0 ≤ l) | none => true)
    (guardB (match lo, hi with
        | some l, some h => decide (l ≤ h)
        | some l, none => decide (l ≤ (n : Int))
        | none, some h => decide (0 ≤ h)
        | none, none => true)
      (guardB (match hi with | some h => decide (h ≤ (n : Int)) | none => true)
        (K (lo.getD 0) (hi.getD n))))
def optInt (ρ : Operand → RO) : Option Operand → Option (Option Int)
  | none => some none
  | some x => match asInt (ρ x) with
    | some (_, n) => some (some n)
    | none => none

/-- A call's arguments, closed. -/
def argCts (ρ : Operand → RO) (τ : TypeId → Option Ty) : List Operand → List TypeId → Option (List Ct)
  | [], _ => some []
  | x :: xs, ts => match (ρ x).cp, ((ρ x).as (ts.head?.bind τ)).ct, argCts ρ τ xs ts.tail with
    | .pl _ _, some c, some cs => some (⟨.ptr c.t, c.x⟩ :: cs)
    | .pe _ _ _ _ _ _, some c, some cs => some (⟨.ptr c.t, c.x⟩ :: cs)
    | _, some c, some cs => some (c :: cs)
    | _, _, _ => none
def argsOw (ρ : Operand → RO) (xs : List Operand) : Bool := xs.any fun x => match (ρ x).cp with
  | .pl _ _ => true
  | .pe _ _ _ _ _ _ => true
  | _ => (ρ x).ow
def capOk : Ty → Bool
  | .unit => true
  | .prod a b => !a.agg && capOk b
  | _ => false
def capArgs : (t : Ty) → El t → List Ct
  | .prod a b, x => ⟨a, x.1⟩ :: capArgs b x.2
  | _, _ => []

/-- A struct's content out of its parts; a part that leads into what is owned is none of this. -/
def buildQ (ρ : Operand → RO) : List (Nat × Operand) → (u : Ty) → El u → Option (El u)
  | [], _, z => some z
  | (j, x) :: ps, u, z => match getP (fieldPath j) u .no z with
    | some r => match ((ρ x).as (some r.t)).cp with
      | .v t _ y => match setP (fieldPath j) u .no z ⟨t, .no, y⟩ with
        | some z' => match castTo u z'.x with
          | some w => buildQ ρ ps u w
          | none => none
        | none => none
      | _ => none
    | none => none
/-- A slice literal's elements, in their places. -/
def partsQ (ρ : Operand → RO) (e : Ty) : Nat → List (Nat × Operand) → Option (List (El e))
  | _, [] => some []
  | j, (i, x) :: ps => match Nat.beq i j, ((ρ x).asF e).cp with
    | true, .v _ _ y => match castTo e y, partsQ ρ e (j + 1) ps with
      | some z, some zs => some (z :: zs)
      | _, _ => none
    | _, _ => none

def capForm : AV → Bool
  | .pl _ _ => true
  | .v _ _ _ => true
  | _ => false
/-- Results as the caller holds them: what is not owned must not lead into what the caller owns. -/
def resOk (ow : Bool) (l : List Res) : Bool := !ow || l.all fun r => full r.t r.φ
def resAV : List Res → AV
  | [r] => .v r.t (norm r.t r.φ) r.x
  | l => .tup l

/-- Results that the caller gives up: nothing of them is owned. -/
def weakRes (b : Bool) (l : List Res) : List Res := match b && l.all fun r => clean r.t r.φ with
  | true => l.map fun r => ⟨r.t, .no, r.x⟩
  | false => l

/-- The operations that turn nothing: what they put into their slot, out of their operands alone. -/
def evQ (E : Env) (ρ : Operand → RO) (o : Oper) (K : AV → Option β) : Option β :=
  match o.op with
  | .move x | .assign x => match (ρ x).cp, E.τ o.type with
    | .dead, _ => none
    | .nil, some (.sl e) => K (.v (.sl e) (.own none (fullFl e)) [])
    | c, _ => K c
  | .pick c a b => match (ρ c).vc, (ρ a).vc, (ρ b).vc with
    | some ⟨.bool, x⟩, some ⟨.bool, y⟩, some ⟨.bool, z⟩ => K (.v .bool .no (cond x y z))
    | some ⟨.bool, x⟩, some ⟨.bool, y⟩, none => guardB x (K (.v .bool .no y))
    | some ⟨.bool, x⟩, none, some ⟨.bool, z⟩ => guardB (!x) (K (.v .bool .no z))
    | _, _, _ => none
  | .unOp op _ x => match (ρ x).vc with
    | some c => un op c K
    | none => none
  | .binOp op t x y _ => match (ρ x).cp, (ρ y).cp, (ρ x).ct, (ρ y).ct with
    | .v _ _ _, .v _ _ _, some a, some b => bin op (E.τ t) a b K
    | _, _, _, _ => none
  | .convert src dst x => match E.τ src, E.τ dst, (ρ x).cp, (ρ x).ct with
    | some (.int _), some (.int k), .v _ _ _, some ⟨.int _, n⟩ => K (.v (.int k) .no (k.wrap n))
    | some .str, some .str, .v _ _ _, some ⟨.str, s⟩ => K (.v .str .no s)
    | some (.sl (.int .u8)), some .str, _, _ => match (ρ x).vc with
      | some ⟨.sl (.int .u8), ns⟩ => K (.v .str .no (bytesOf ns))
      | _ => none
    | _, _, _, _ => none
  | .nilCheck x => match (ρ x).cp with
    | .pl s p => K (.pl s p)
    | .pe s p i e y q => K (.pe s p i e y q)
    | .v (.ptr t) φ y => K (.v (.ptr t) φ y)
    | .bw s (.ptr t) y => K (.bw s (.ptr t) y)
    | _ => none
  | .fieldAddr s x j => match E.τ s with
    | some st => match partOff (fieldPath j) st with
      | some (_, v) => match Nat.blt 0 v.size with
        | true => match (ρ x).cp with
          | .pl u p => match (ρ x).ty with
            | some t => match Ty.beq st t with
              | true => K (.pl u (p ++ fieldPath j))
              | false => none
            | none => none
          | .pe u p i e y q => match (ρ x).ty with
            | some t => match Ty.beq st t with
              | true => K (.pe u p i e y (q ++ fieldPath j))
              | false => none
            | none => none
          | .v (.ptr t) φ y => match Ty.beq st t with
            | true => match getP (fieldPath j) t .no y with
              | some r => K (.v (.ptr r.t) φ r.x)
              | none => none
            | false => none
          | .bw u (.ptr t) y => match Ty.beq st t with
            | true => match getP (fieldPath j) t .no y with
              | some r => K (.bw u (.ptr r.t) r.x)
              | none => none
            | false => none
          | _ => none
        | false => none
      | none => none
    | none => none
  | .field s x j => match E.τ s, (ρ x).cp, (ρ x).ct with
    | some st, .v _ _ _, some c => match Ty.beq st c.t with
      | true => match getP (fieldPath j) c.t .no c.x with
        | some r => K (.v r.t .no r.x)
        | none => none
      | false => none
    | some st, .bw u _ _, some c => match Ty.beq st c.t with
      | true => match getP (fieldPath j) c.t .no c.x with
        | some r => K (lent true u r.t r.x)
        | none => none
      | false => none
    | some st, .al u p, some c => match Ty.beq st c.t with
      | true => match getP (fieldPath j) c.t .no c.x with
        | some r => match r.t.flat with
          | true => K (.v r.t .no r.x)
          | false => K (.al u (p ++ fieldPath j))
        | none => none
      | false => none
    | _, _, _ => none
  | .load t x => match E.τ t, (ρ x).cp, (ρ x).ct with
    | some u, .pl s p, some c => match Ty.beq u c.t with
      | true => match (ρ x).ow with
        | true => K (.al s p)
        | false => K (.v c.t .no c.x)
      | false => none
    | some u, .pe s p i e y q, some c => match Ty.beq u c.t with
      | true => match (ρ x).ow && !c.t.flat with
        | true => K (.el s c.t c.x p i e y q)
        | false => K (.v c.t .no c.x)
      | false => none
    | some u, .v _ _ _, some ⟨.ptr t', y⟩ => match Ty.beq u t' with
      | true => K (.v t' .no y)
      | false => none
    | some u, .bw s _ _, some ⟨.ptr t', y⟩ => match Ty.beq u t' with
      | true => K (lent true s t' y)
      | false => none
    | _, _, _ => none
  | .indexAddr t x i => match E.τ t, (ρ x).cp, (ρ x).ct, asInt (ρ i) with
    | some u, .v _ _ _, some ⟨.sl e, xs⟩, some (_, n) => match Ty.beq u (.sl e) with
      | true => obind (rdAt xs n) fun y => K (.v (.ptr e) .no y)
      | false => none
    | some u, .bw s _ _, some ⟨.sl e, xs⟩, some (_, n) => match Ty.beq u (.sl e) with
      | true => obind (rdAt xs n) fun y => K (.bw s (.ptr e) y)
      | false => none
    | some u, .al s p, some ⟨.sl e, xs⟩, some (_, n) => match Ty.beq u (.sl e) with
      | true => match (ρ x).ow with
        | true => obind (rdAt xs n) fun y => K (.pe s p n e y [])
        | false => obind (rdAt xs n) fun y => K (.v (.ptr e) .no y)
      | false => none
    | _, _, _, _ => none
  | .index t x i => match E.τ t, (ρ x).vc, asInt (ρ i) with
    | some .str, some ⟨.str, s⟩, some (_, n) => obind (btAt s n) fun b => K (.v (.int .u8) .no b)
    | _, _, _ => none
  | .slice t x lo hi mx => match E.τ t, (ρ x).cp, (ρ x).ct, optInt ρ lo, optInt ρ hi, mx with
    | some .str, .v _ _ _, some ⟨.str, s⟩, some l, some h, none => cutTests l h s.size fun a b => K (.v .str .no (s.extract a.toNat b.toNat))
    | some u, .v _ _ _, some ⟨.sl e, xs⟩, some l, some h, none => match Ty.beq u (.sl e) with
      | true => cutTests l h xs.length fun a b => K (.v (.sl e) .no ((xs.take b.toNat).drop a.toNat))
      | false => none
    | some u, .bw s _ _, some ⟨.sl e, xs⟩, some l, some h, none => match Ty.beq u (.sl e) with
      | true => cutTests l h xs.length fun a b => K (.bw s (.sl e) ((xs.take b.toNat).drop a.toNat))
      | false => none
    | some u, .al s _, some ⟨.sl e, xs⟩, some l, some h, none => match Ty.beq u (.sl e) with
      | true => cutTests l h xs.length fun a b => K (.bw s (.sl e) ((xs.take b.toNat).drop a.toNat))
      | false => none
    | _, _, _, _, _, _ => none
  | .extract x j => match (ρ x).cp with
    | .tup l => match l[j]? with
      | some r => match clean r.t r.φ with
        | true => K (.v r.t .no r.x)
        | false => none
      | none => none
    | _ => none
  | .alloc t => match E.τ t with
    | some u => match zeroEl u with
      | some z => K (.bx none u (fullFl u) z)
      | none => none
    | none => none
  | .box t x => match E.τ t, (ρ x).cp with
    | some u, .v _ _ y => match castTo u y with
      | some z => K (.bx none u .no z)
      | none => none
    | some (.sl e), .nil => K (.bx none (.sl e) (.own none (fullFl e)) [])
    | _, _ => none
  | .build t parts => match E.τ t with
    | some u => match u.agg && Nat.blt 0 u.size, zeroEl u with
      | true, some z => match buildQ ρ (parts.toList) u z with
        | some y => K (.v u .no y)
        | none => none
      | _, _ => none
    | none => none
  | .buildSlice t n parts => match E.τ t with
    | some (.sl e) => match partsQ ρ e 0 (parts.toList) with
      | some ys => match Nat.beq ys.length n && Nat.ble (n * e.size) 16777216 with
        | true => K (.v (.sl e) (.own none .no) ys)
        | false => none
      | none => none
    | _ => none
  | .makeSlice t n m => match E.τ t, asInt (ρ n), asInt (ρ m) with
    | some (.sl e), some (.i64, a), some (.i64, b) => match zeroEl e with
      | some z => guardB (decide (0 ≤ a)) (guardB (decide (a ≤ b)) (guardB (decide (b * (E.by_ t : Int) ≤ 281474976710656)) (guardB (decide (b ≤ 9223372036854775807))
          (K (.v (.sl e) (.own none (fullFl e)) (List.replicate a.toNat z))))))
      | none => none
    | _, _, _ => none
  | .makeFunc (.func f) first caps => match first.toList with
    | [] => match (caps.toList.map fun c => (ρ c).cp).all capForm with
      | true => K (.fn f (caps.toList.map fun c => (ρ c).cp))
      | false => none
    | _ => none
  | .call c => match c.callee with
    | .builtin .len => match c.args.toList, c.argTypes.toList with
      | [x], [t] => match E.τ t, ((ρ x).as (E.τ t)).vc with
        | some (.sl _), some ⟨.sl _, xs⟩ => K (.v (.int .i64) .no (xs.length : Int))
        | some .str, some ⟨.str, s⟩ => K (.v (.int .i64) .no (s.size : Int))
        | _, _ => none
      | _, _ => none
    | .builtin .max => match c.args.toList with
      | [x, y] => match (ρ x).vc, (ρ y).vc with
        | some ⟨.int k, a⟩, some ⟨.int j, b⟩ => match kbeq k j with
          | true => K (.v (.int k) .no (max a b))
          | false => none
        | _, _ => none
      | [x, y, z] => match (ρ x).vc, (ρ y).vc, (ρ z).vc with
        | some ⟨.int k, a⟩, some ⟨.int j, b⟩, some ⟨.int l, d⟩ => match kbeq k j && kbeq k l with
          | true => K (.v (.int k) .no (max (max a b) d))
          | false => none
        | _, _, _ => none
      | _ => none
    | .builtin .min => match c.args.toList with
      | [x, y] => match (ρ x).vc, (ρ y).vc with
        | some ⟨.int k, a⟩, some ⟨.int j, b⟩ => match kbeq k j with
          | true => K (.v (.int k) .no (min a b))
          | false => none
        | _, _ => none
      | _ => none
    | .value f => match (ρ f).vc, argCts ρ E.τ c.args.toList c.argTypes.toList with
      | some ⟨.fn g ct, cx⟩, some as => match capOk ct with
        | true => E.Γ g (as ++ capArgs ct cx) fun rs => guardB (resOk (argsOw ρ c.args.toList || (ρ f).ow) rs) (K (resAV (weakRes (E.wk g) rs)))
        | false => none
      | some ⟨.fnu, x⟩, some as => obind x fun g => E.Φ g as fun rs => guardB (resOk (argsOw ρ c.args.toList || (ρ f).ow) rs) (K (resAV (weakRes false rs)))
      | _, _ => none
    | _ => none
  | _ => none
end
end Go.Ev
/-
  The evaluator: the operations that turn what is owned, regions, code, functions.
-/
namespace Go.Ev

/-- Does the form speak of slot s? -/
def refers (s : Nat) : AV → Bool
  | .bw u _ _ | .al u _ | .pl u _ | .pe u _ _ _ _ _ | .pw u _ _ _ | .el u _ _ _ _ _ _ _ => Nat.beq u s
  | .fn _ caps => caps.any fun c => match c with
    | .pl u _ => Nat.beq u s
    | _ => false
  | _ => false
def refsOf : AV → List Nat
  | .bw u _ _ | .al u _ | .pl u _ | .pe u _ _ _ _ _ | .pw u _ _ _ | .el u _ _ _ _ _ _ _ => [u]
  | .fn _ caps => caps.filterMap fun c => match c with
    | .pl u _ => some u
    | _ => none
  | _ => []
def isOwner : AV → Bool
  | .v t φ _ => hasOwn t φ
  | .bx _ _ _ _ => true
  | _ => false
def overlap : List Bool → List Bool → Bool
  | a :: p, b :: q => (a == b) && overlap p q
  | _, _ => true

/-- Nothing speaks of slot s any more. -/
def killAll (s : Nat) (st : St) : St := st.map fun a => cond (refers s a) .dead a
/-- What spoke of the values in part p of slot s falls; pointers to its variable stay. -/
def killVal (s : Nat) (p : List Bool) : AV → AV
  | .bw u t x => cond (Nat.beq u s) .dead (.bw u t x)
  | .al u q => cond (Nat.beq u s && overlap p q) .dead (.al u q)
  | .pe u q i e x r => cond (Nat.beq u s && overlap p q) .dead (.pe u q i e x r)
  | .pw u q i e => cond (Nat.beq u s && overlap p q) .dead (.pw u q i e)
  | .el u t x p' i e y q => cond (Nat.beq u s) .dead (.el u t x p' i e y q)
  | a => a
/-- An element of the slice at part p of slot s was written. -/
def killEl (s : Nat) : AV → AV
  | .bw u t x => cond (Nat.beq u s) .dead (.bw u t x)
  | .pe u q i e x r => cond (Nat.beq u s) (match r with | [] => .pw u q i e | _ => .dead) (.pe u q i e x r)
  | .el u t x p' i e y q => cond (Nat.beq u s) .dead (.el u t x p' i e y q)
  | a => a

def put (st : St) (d : Option Nat) (a : AV) : St := match d with
  | none => st
  | some d => match isOwner (st.at d) with
    | true => (killAll d st).set d (cond (refers d a) .dead a)
    | false => st.set d a

def setOwner (st : St) (s : Nat) (r : Res) : St := match st.at s with
  | .v _ _ _ => st.set s (.v r.t r.φ r.x)
  | .bx g _ _ _ => st.set s (.bx g r.t r.φ r.x)
  | _ => st

/-- The value of part p of slot s, its ownership taken away. -/
def takeAt (st : St) (s : Nat) (p : List Bool) : Option (St × Res) :=
  match ownerAt st.at s with
  | some r => match getP p r.t r.φ r.x with
    | some z => match clean z.t z.φ with
      | true => match hasOwn z.t z.φ with
        | true => some (match st.at s, hasOwn r.t (goneP p r.t r.φ) with
          | .v _ _ _, false => setOwner (killAll s st) s ⟨r.t, goneP p r.t r.φ, r.x⟩
          | _, _ => setOwner (st.map (killVal s p)) s ⟨r.t, goneP p r.t r.φ, r.x⟩, z)
        | false => some (st, z)
      | false => none
    | none => none
  | none => none
def takeOp (st : St) (want : Option Ty) : Operand → Option (St × Res)
  | .tmp s => match st.at s with
    | .v _ _ _ => takeAt st s []
    | .al u p => takeAt st u p
    | .nil => match want with
      | some (.sl e) => some (st, ⟨.sl e, .own none (fullFl e), []⟩)
      | _ => none
    | .fn f caps => match capsCt st.at caps with
      | some (c, false) => some (st, ⟨.fn f c.t, .no, c.x⟩)
      | _ => none
    | _ => none
  | .const c => match constCt c with
    | .v t φ x => some (st, ⟨t, φ, x⟩)
    | .nil => match want with
      | some (.sl e) => some (st, ⟨.sl e, .own none (fullFl e), []⟩)
      | _ => none
    | _ => none
  | .func f => some (st, ⟨.fn f .unit, .no, ()⟩)
  | .global _ => none

def takeParts (st : St) (e : Ty) : Nat → List (Nat × Operand) → Option (St × Fl × List (El e))
  | _, [] => some (st, fullFl e, [])
  | j, (i, x) :: ps => match Nat.beq i j, takeOp st (some e) x with
    | true, some (st1, r) => match castTo e r.x, takeParts st1 e (j + 1) ps with
      | some z, some (st2, φ, zs) => some (st2, cond (e.flat || Fl.beq (norm e r.φ) (norm e φ)) (norm e φ) .no, z :: zs)
      | _, _ => none
    | _, _ => none
def takeBuild (st : St) : List (Nat × Operand) → (u : Ty) → Fl → El u → Option (St × Res)
  | [], u, φ, z => some (st, ⟨u, φ, z⟩)
  | (j, x) :: ps, u, φ, z => match getP (fieldPath j) u φ z with
    | some r => match takeOp st (some r.t) x with
      | some (st1, y) => match setP (fieldPath j) u φ z y with
        | some w => match castTo u w.x with
          | some z' => takeBuild st1 ps u w.φ z'
          | none => none
        | none => none
      | none => none
    | none => none

section
variable {β : Type}

/-- A value into a place. -/
def storeTo (st : St) (a : AV) (r : Res) : Option St := match a with
  | .pl u p => match ownerAt st.at u with
    | some o => match setP p o.t o.φ o.x r with
      | some n => some (setOwner (st.map (killVal u p)) u n)
      | none => none
    | none => none
  | .pe u p i e x q => match ownerAt st.at u with
    | some o => match getP p o.t o.φ o.x with
      | some ⟨.sl e', .own g φ, xs⟩ => match castTo e' x with
        | some y => match setP q e' φ y r with
          | some n => match e'.flat || Fl.beq (norm e' n.φ) (norm e' φ), castTo e' n.x with
            | true, some z => match setP p o.t o.φ o.x ⟨.sl e', .own g (norm e' φ), xs.set i.toNat z⟩ with
              | some n => some (setOwner (st.map (killEl u)) u n)
              | none => none
            | _, _ => none
          | none => none
        | none => none
      | _ => none
    | none => none
  | .pw u p i _ => match ownerAt st.at u with
    | some o => match getP p o.t o.φ o.x with
      | some ⟨.sl e', .own g φ, xs⟩ => match e'.flat || Fl.beq (norm e' r.φ) (norm e' φ), castTo e' r.x with
        | true, some z => match setP p o.t o.φ o.x ⟨.sl e', .own g (norm e' φ), xs.set i.toNat z⟩ with
          | some n => some (setOwner (st.map (killEl u)) u n)
          | none => none
        | _, _ => none
      | _ => none
    | none => none
  | _ => none

/-- The place that a slot points to. -/
def placeAt (st : St) (s : Nat) : AV := match st.at s with
  | .bx _ _ _ _ => .pl s []
  | a => a

/-- What an append adds: elements and their flags. -/
def addend (E : Env) (st : St) (e : Ty) (t : TypeId) (x : Operand) : Option (St × Fl × List (El e)) :=
  match E.τ t with
  | some .str => match (opd st.at x).vc with
    | some ⟨.str, s⟩ => match castTo (.sl e) (u := .sl (.int .u8)) (s.data.toList.map fun b => (b.toNat : Int)) with
      | some ys => some (st, .no, ys)
      | none => none
    | _ => none
  | some (.sl e2) => match Ty.beq e2 e, e.flat with
    | true, true => match ((opd st.at x).as (some (.sl e))).vc with
      | some c => match c.to (.sl e) with
        | some ys => some (st, .no, ys)
        | none => none
      | none => none
    | true, false => match takeOp st (some (.sl e)) x with
      | some (st1, r) => match castTo (.sl e) r.x with
        | some ys => match r.φ with
          | .own _ φ => some (st1, φ, ys)
          | _ => some (st1, .no, ys)
        | none => none
      | _ => none
    | _, _ => none
  | _ => none

/-- Owned to the bottom again, with the marks at the top. -/
def reFl : Ty → Fl → Fl
  | .sl e, .own g _ => .own g (fullFl e)
  | .prod a b, φ => .pr (reFl a φ.l) (reFl b φ.r)
  | _, _ => .no
/-- What is lent to a call that writes into it: the slot and the part, the slot's content, the part's. -/
def lendAt (st : St) : Operand → Option (Nat × List Bool × Res × Res)
  | .tmp s => match st.at s with
    | .v t φ x => some (s, [], ⟨t, φ, x⟩, ⟨t, φ, x⟩)
    | .al u p => match ownerAt st.at u with
      | some o => match getP p o.t o.φ o.x with
        | some z => some (u, p, o, z)
        | none => none
      | none => none
    | _ => none
  | _ => none

/-- A part of an element of what a slot owns, lent to a call that writes into it. -/
structure LentEl where
  u : Nat
  p : List Bool
  o : Res
  e : Ty
  g : Option Nat
  φ : Fl
  xs : List (El e)
  i : Nat
  q : List Bool
  y : El e
  z : Res
def lendEl (st : St) : Operand → Option LentEl
  | .tmp s => match st.at s with
    | .el u _ _ p i e' y q => match ownerAt st.at u with
      | some o => match getP p o.t o.φ o.x with
        | some ⟨.sl e, .own g φ, xs⟩ => match castTo e y with
          | some y0 => match getP q e φ y0 with
            | some z => some ⟨u, p, o, e, g, φ, xs, i.toNat, q, y0, z⟩
            | none => none
          | none => none
        | _ => none
      | none => none
    | _ => none
  | _ => none
def LentEl.put (l : LentEl) (r : Res) : Option Res := match setP l.q l.e l.φ l.y r with
  | some n => match l.e.flat || Fl.beq (norm l.e n.φ) (norm l.e l.φ), castTo l.e n.x with
    | true, some z => setP l.p l.o.t l.o.φ l.o.x ⟨.sl l.e, .own l.g (norm l.e l.φ), l.xs.set l.i z⟩
    | _, _ => none
  | none => none

def evM (E : Env) (st : St) (o : Oper) (K : St → AV → Option β) : Option β :=
  match o.op with
  | .move x | .assign x => match takeOp st (E.τ o.type) x with
    | some (st1, r) => K st1 (.v r.t r.φ r.x)
    | none => match x with
      | .tmp s => match st.at s with
        | .tup l => K (st.set s .dead) (.tup l)
        | _ => none
      | _ => none
  | .extract (.tmp s) j => match st.at s with
    | .tup l => match l[j]? with
      | some r => match hasOwn r.t r.φ, clean r.t r.φ with
        | true, _ => K (st.set s (.tup (l.set j ⟨r.t, goneFl r.t r.φ, r.x⟩))) (.v r.t r.φ r.x)
        | false, true => K st (.v r.t .no r.x)
        | false, false => none
      | none => none
    | _ => none
  | .box t x => match E.τ t, takeOp st (E.τ t) x with
    | some u, some (st1, r) => match castTo u r.x with
      | some z => K st1 (.bx none u r.φ z)
      | none => none
    | _, _ => none
  | .build t parts => match E.τ t with
    | some u => match u.agg && Nat.blt 0 u.size, zeroEl u with
      | true, some z => match takeBuild st parts.toList u (fullFl u) z with
        | some (st1, r) => K st1 (.v r.t r.φ r.x)
        | none => none
      | _, _ => none
    | none => none
  | .buildSlice t n parts => match E.τ t with
    | some (.sl e) => match takeParts st e 0 parts.toList with
      | some (st1, φ, ys) => guardB (Nat.beq ys.length n && Nat.ble (n * e.size) 16777216) (K st1 (.v (.sl e) (.own none φ) ys))
      | none => none
    | _ => none
  | .store t a x => match E.τ t, o.dst with
    | some u, none => match takeOp st (some u) x with
      | some (st1, r) => match Ty.beq u r.t, a with
        | true, .tmp s => match storeTo st1 (placeAt st1 s) r with
          | some st2 => K st2 .dead
          | none => none
        | _, _ => none
      | none => none
    | _, _ => none
  | .call c => match c.callee, c.args.toList, c.argTypes.toList with
    | .builtin .append, [x, y], [t, t'] => match E.τ t with
      | some (.sl e) => match takeOp st (some (.sl e)) x with
        | some (st1, r) => match r.φ, castTo (.sl e) r.x, addend E st1 e t' y with
          | .own _ φ, some xs, some (st2, φ', ys) =>
            guardB (Nat.blt 0 (E.by_ t)) (guardB (decide ((xs.length + ys.length) * E.by_ t ≤ 140737488355328))
              (K st2 (.v (.sl e) (.own none (cond (e.flat || Fl.beq (norm e φ) (norm e φ')) (norm e φ') .no)) (xs ++ ys))))
          | _, _, _ => none
        | _ => none
      | _ => none
    | .value (.func g), x :: xs, _ :: ts => match lendAt st x with
      | some (u, p, o, z) => match full z.t z.φ && (hasOwn z.t z.φ && !(argsOw (opd st.at) xs)), argCts (opd st.at) E.τ xs ts with
        | true, some as => E.ΓW g z.t z.x as fun res y => match res.all (fun r => r.t.flat), setP p o.t o.φ o.x ⟨z.t, reFl z.t z.φ, y⟩ with
          | true, some n => K (setOwner (st.map (killVal u p)) u n) (resAV res)
          | _, _ => none
        | _, _ => none
      | none => match lendEl st x with
        | some l => match full l.z.t l.z.φ && (hasOwn l.z.t l.z.φ && !(argsOw (opd st.at) xs)), argCts (opd st.at) E.τ xs ts with
          | true, some as => E.ΓW g l.z.t l.z.x as fun res y => match res.all (fun r => r.t.flat), l.put ⟨l.z.t, reFl l.z.t l.z.φ, y⟩ with
            | true, some n => K (setOwner (st.map (killVal l.u l.p)) l.u n) (resAV res)
            | _, _ => none
          | _, _ => none
        | none => none
    | _, _, _ => none
  | _ => none

def tupOwn (st : St) : Operand → Bool
  | .tmp s => match st.at s with
    | .tup l => l.any fun r => hasOwn r.t r.φ
    | _ => false
  | _ => false
/-- Does an operation turn nothing? -/
def isQuiet (E : Env) (st : St) (o : Oper) : Bool :=
  (match o.dst with
   | some d => !isOwner (st.at d)
   | none => true) &&
  match o.op with
  | .store .. => false
  | .call c => match c.callee with
    | .builtin .append => false
    | .value (.func g) => !(E.W g)
    | _ => true
  | .assign x | .box _ x => match (opd st.at x).cp with
    | .al _ _ => false
    | _ => !tupOwn st x
  | .move x | .extract x _ => !tupOwn st x
  | .build t ps => (ps.toList.all fun p => match (opd st.at p.2).cp with | .al _ _ => false | .nil => false | _ => true) &&
    ((match E.τ t with
      | some u => u.flat
      | none => true) || ps.toList.any fun p => match (opd st.at p.2).cp with | .v u _ _ => !u.flat | _ => true)
  | .buildSlice _ _ ps => ps.toList.all fun p => match (opd st.at p.2).cp with | .al _ _ => false | .nil => false | _ => true
  | _ => true

def evOp (E : Env) (st : St) (o : Oper) (K : St → Option β) : Option β :=
  match isQuiet E st o with
  | true => evQ E (opd st.at) o fun a => K (put st o.dst a)
  | false => evM E st o fun st1 a => K (put st1 o.dst a)

def ordered (bs : Array Nat) (i j : Nat) : Bool := (bs.getD (max i j) 0).testBit (min i j)
def operTmps (o : Oper) : List Nat := o.op.operands.toList.filterMap fun | .tmp t => some t | _ => none
def dstOf (ops : Array Oper) (j : Nat) : Option Nat := (ops[j]?).bind (·.dst)
/-- In a region that draws: all that the operation looks at is ordered against it. -/
def depsOf (ops : Array Oper) (st : St) (o : Oper) : List Nat :=
  o.dst.toList ++ ((match o.guard with | some (g, _) => (dstOf ops g).toList | none => []) ++ (operTmps o ++ (operTmps o).flatMap fun t => refsOf (st.at t)))
def freeDst (st : St) (o : Oper) : Bool := match o.dst with
  | some d => !isOwner (st.at d)
  | none => true
/-- In a region that draws: an assignment of what is owned names its place. -/
def aliasD (st : St) (o : Oper) : Bool := match o.op with
  | .assign x => freeDst st o && (match (opd st.at x).cp with
    | .al _ _ => !tupOwn st x
    | _ => false)
  | _ => false
def evOpX (dr : Bool) (E : Env) (st : St) (o : Oper) (K : St → Option β) : Option β := match dr && aliasD st o with
  | true => evQ E (opd st.at) o fun a => K (put st o.dst a)
  | false => evOp E st o K
/-- Behind the region what was named so is taken. -/
def settle1 (st : St) (o : Oper) : St := match o.op, o.dst with
  | .assign _, some d => match st.at d with
    | .al _ _ => match takeOp st none (.tmp d) with
      | some (st1, r) => Ev.put st1 (some d) (.v r.t r.φ r.x)
      | none => st
    | _ => st
  | _, _ => st
def settle (ops : Array Oper) (st : St) : St := ops.toList.foldl settle1 st

/-- Two operations that take different parts of one tuple. -/
def twins (o o' : Oper) : Bool := match o.op, o'.op, o.dst, o'.dst, o.guard, o'.guard with
  | .extract (.tmp s) j, .extract (.tmp s') j', some d, some d', none, none => Nat.beq s s' && (!(Nat.beq j j') && (!(Nat.beq d d') && (!(Nat.beq d s) && !(Nat.beq d' s))))
  | _, _, _, _, _, _ => false
/-- In a region that draws: does an operation turn nothing? -/
def quietD (E : Env) (st : St) (o : Oper) : Bool := match o.op with
  | .extract (.tmp s) j => freeDst st o && (match st.at s with
    | .tup l => match l[j]? with
      | some r => !hasOwn r.t r.φ && clean r.t r.φ
      | none => false
    | _ => false)
  | .assign _ => isQuiet E st o || aliasD st o
  | _ => isQuiet E st o
def isApp (o : Oper) : Bool := match o.op with
  | .call c => match c.callee with
    | .builtin .append => true
    | _ => false
  | _ => false
/-- The slot and the part that an append takes: elements that own nothing, behind a name. -/
def appRoot (E : Env) (st : St) (o : Oper) : Option (Nat × List Bool) := match o.op with
  | .call c => match c.args.toList, c.argTypes.toList with
    | [.tmp a, _], [t, t'] => match E.τ t, E.τ t', st.at a with
      | some (.sl e), some (.sl _), .al u p => match e.flat with
        | true => some (u, p)
        | false => none
      | _, _, _ => none
    | _, _ => none
  | _ => none
def mildOp (o : Oper) : Bool := match o.op with
  | .move _ | .load _ _ | .indexAddr _ _ _ | .buildSlice _ _ _ => true
  | _ => false
def aliveAV : AV → Bool
  | .dead => false
  | .v t φ _ => clean t φ
  | .bx _ t φ _ => clean t φ
  | _ => true
/-- An append, and an operation behind it in the text that is not ordered against it. -/
def appFirst (E : Env) (ops : Array Oper) (st : St) (o oj : Oper) : Bool :=
  o.guard.isNone && (oj.guard.isNone && (mildOp oj && (freeDst st o && (match o.dst, oj.dst, appRoot E st o with
    | some d, some dj, some (u, p) => !Nat.beq d dj && (!Nat.beq u d && (!Nat.beq u dj && (!((depsOf ops st o).any (Nat.beq dj)) && (!refers u (st.at dj) && (match ownerAt st.at u with
      | some r => !clean r.t (goneP p r.t r.φ)
      | none => false)))))
    | _, _, _ => false))))
/-- The same, from the other's side. -/
def afterApp (E : Env) (ops : Array Oper) (st : St) (o oj : Oper) : Bool :=
  mildOp o && (quietD E st o && ((match oj.dst with
    | some dj => !((depsOf ops st o).any (Nat.beq dj))
    | none => false) && ((operTmps o ++ (operTmps o).flatMap fun t => refsOf (st.at t)).all fun s => aliveAV (st.at s))))
def pairOk (E : Env) (ops : Array Oper) (st : St) (i j : Nat) (o oj : Oper) : Bool := match isApp o with
  | true => Nat.blt i j && appFirst E ops st o oj
  | false => match isApp oj with
    | true => Nat.blt j i && afterApp E ops st o oj
    | false => (twins o oj && freeDst st o) || (quietD E st o && (match oj.dst with
      | some d => !((depsOf ops st o).any (Nat.beq d))
      | none => true))
def drawOk (E : Env) (ops : Array Oper) (bs : Array Nat) (st : St) (i : Nat) (o : Oper) : Bool :=
  (o.after.toList.all fun e => !Region.binds .any e || Nat.blt e.on i) &&
  (List.range ops.size).all fun j => Nat.beq j i || (ordered bs i j || (match ops[j]? with
    | some oj => pairOk E ops st i j o oj
    | none => false))

def guarded (ops : Array Oper) (st : St) (o : Oper) (yes no : St → Option β) : Option β := match o.guard with
  | none => yes st
  | some (g, want) => match dstOf ops g with
    | some d => match st.at d with
      | .v .bool .no b => match b with
        | true => cond want (yes (st.set d (.v .bool .no true))) (no (st.set d (.v .bool .no true)))
        | false => cond want (no (st.set d (.v .bool .no false))) (yes (st.set d (.v .bool .no false)))
      | .tup [] => no st
      | _ => none
    | none => none

def execOps (E : Env) (ops : Array Oper) (draw : Option (Array Nat)) : List Nat → St → (St → Option β) → Option β
  | [], st, K => K st
  | i :: is, st, K => match ops[i]? with
    | none => none
    | some o => guarded ops st o
        (fun st => guardB (match draw with | some bs => drawOk E ops bs st i o | none => true) (evOpX draw.isSome E st o fun st => execOps E ops draw is st K))
        (fun st => guardB (match draw with | some bs => drawOk E ops bs st i o | none => true) (execOps E ops draw is (put st o.dst (.tup [])) K))

inductive Ex where
  | normal | exit (id : Nat) | ret

/-- What is known of the slots at a place where ways meet (a loop's head). -/
inductive Sh where
  | dead
  | val (t : Ty) (φ : Fl)
  | box (g : Option Nat) (t : Ty) (φ : Fl)
  | al (s : Nat) (p : List Bool)
  | pl (s : Nat) (p : List Bool)
  | fn (f : Nat) (caps : List (Nat × List Bool))
  | nil

@[reducible] def Vars : List Sh → Type
  | [] => Unit
  | .val t _ :: r => El t × Vars r
  | .box _ t _ :: r => El t × Vars r
  | _ :: r => Vars r
def encode : (l : List Sh) → Vars l → St
  | [], _ => []
  | .val t φ :: r, x => .v t φ x.1 :: encode r x.2
  | .box g t φ :: r, x => .bx g t φ x.1 :: encode r x.2
  | .dead :: r, x => .dead :: encode r x
  | .al s p :: r, x => .al s p :: encode r x
  | .pl s p :: r, x => .pl s p :: encode r x
  | .fn f cs :: r, x => .fn f (cs.map fun c => .pl c.1 c.2) :: encode r x
  | .nil :: r, x => .nil :: encode r x
/-- The flags φ say no more than φ' does. -/
def weaker : Ty → Fl → Fl → Bool
  | .sl _, .gone, _ => true
  | .sl e, .own none φ, .own _ φ' => weaker e φ φ'
  | .sl e, .own (some g) φ, .own (some g') φ' => Nat.beq g g' && weaker e φ φ'
  | .sl e, .no, .own _ φ' => weaker e .no φ'
  | .sl _, .no, .no => true
  | .sl _, .no, .pr _ _ => true
  | .sl _, _, _ => false
  | .prod a b, φ, φ' => weaker a φ.l φ'.l && weaker b φ.r φ'.r
  | _, _, _ => true
def pathEq : List Bool → List Bool → Bool
  | [], [] => true
  | a :: p, b :: q => (a == b) && pathEq p q
  | _, _ => false
def markOk : Option Nat → Option Nat → Bool
  | none, _ => true
  | some g, some g' => Nat.beq g g'
  | _, _ => false
def decode : (l : List Sh) → St → Option (Vars l)
  | [], _ => some ()
  | .dead :: r, st => decode r st.tail
  | .val t φ :: r, st => match st with
    | .v u φ' x :: _ => match castTo t x, weaker t φ φ', decode r st.tail with
      | some y, true, some z => some (y, z)
      | _, _, _ => none
    | .nil :: _ => match (t : Ty), weaker t φ (fullFl t) with
      | .sl _, true => match decode r st.tail with
        | some z => some ([], z)
        | none => none
      | _, _ => none
    | _ => none
  | .box g t φ :: r, st => match st with
    | .bx g' u φ' x :: _ => match castTo t x, weaker t φ φ' && markOk g g', decode r st.tail with
      | some y, true, some z => some (y, z)
      | _, _, _ => none
    | _ => none
  | .al s p :: r, st => match st with
    | .al u q :: _ => match Nat.beq u s && pathEq p q with
      | true => decode r st.tail
      | false => none
    | _ => none
  | .pl s p :: r, st => match st with
    | .pl u q :: _ => match Nat.beq u s && pathEq p q with
      | true => decode r st.tail
      | false => none
    | .bx _ _ _ _ :: _ => none
    | _ => none
  | .fn f cs :: r, st => match st with
    | .fn g ds :: _ => match Nat.beq f g, cs, ds with
      | true, [], [] => decode r st.tail
      | true, [(s, p)], [.pl u q] => match Nat.beq u s && pathEq p q with
        | true => decode r st.tail
        | false => none
      | true, [(s, p), (s', p')], [.pl u q, .pl u' q'] => match Nat.beq u s && pathEq p q && Nat.beq u' s' && pathEq p' q' with
        | true => decode r st.tail
        | false => none
      | _, _, _ => none
    | _ => none
  | .nil :: r, st => match st with
    | .nil :: _ => decode r st.tail
    | _ => none
def Sh.owner : Sh → Bool
  | .val t φ => hasOwn t φ
  | .box _ _ _ => true
  | _ => false
/-- Every place that is spoken of is there. -/
def shOk (l : List Sh) : Bool := l.all fun a => match a with
  | .al s _ => (l.getD s .dead).owner
  | .pl s _ => (l.getD s .dead).owner
  | .fn _ cs => cs.all fun c => (l.getD c.1 .dead).owner
  | _ => true

/-- A loop, told: what its head knows; what it comes to. -/
structure LoopSpec where
  sh : List Sh
  fn : {β : Type} → Vars sh → (Ex → St → Option β) → Option β

def exec (E : Env) (L : Nat → Option LoopSpec) : Nat → Code → St → (Ex → St → Option β) → Option β
  | _, .skip, st, K => K .normal st
  | _, .region _ ops draw, st, K => match draw with
    | false => execOps E ops none (List.range ops.size) st fun st => K .normal st
    | true => execOps E ops (some (Region.before ops)) (List.range ops.size) st fun st => K .normal (settle ops st)
  | cur, .seq x y, st, K => exec E L cur x st fun e st' => match e with
    | .normal => exec E L cur y st' K
    | e => K e st'
  | cur, .cond c x y, st, K => match (opd st.at c).vc with
    | some ⟨.bool, b⟩ => match b with
      | true => exec E L cur x st K
      | false => exec E L cur y st K
    | _ => none
  | _, .block id body, st, K => exec E L id body st fun e st' => match e with
    | .exit j => match Nat.beq j id with
      | true => K .normal st'
      | false => K (.exit j) st'
    | e => K e st'
  | cur, .loop _, st, K => match L cur with
    | some s => match shOk s.sh, decode s.sh st with
      | true, some x => s.fn x K
      | _, _ => none
    | none => none
  | _, .exit id, st, K => K (.exit id) st
  | _, .label _, st, K => K .normal st
  | _, .ret, st, K => K .ret st
  | _, _, _, _ => none

/-- The rounds of a loop: at its head what sh keeps, behind it (by an exit or a return) what out keeps. -/
def iterV (E : Env) (L : Nat → Option LoopSpec) (cur : Nat) (body : Code) (sh : List Sh) (out : Ex → List Sh) : Nat → Vars sh → ((e : Ex) → Vars (out e) → Option β) → Option β
  | 0, _, _ => none
  | k + 1, x, K => exec E L cur body (encode sh x) fun e st' => match e with
    | .normal => match decode sh st' with
      | some y => iterV E L cur body sh out k y K
      | none => none
    | .exit j => match decode (out (.exit j)) st' with
      | some y => K (.exit j) y
      | none => none
    | .ret => match decode (out .ret) st' with
      | some y => K .ret y
      | none => none

/-- The results, at the types and flags that are told. -/
def finish (E : Env) : List (Ty × Fl) → List ResultVar → St → Option (List Res)
  | [], [], _ => some []
  | (t, φ) :: ts, .tmp s :: rs, st => match takeOp st (some t) (.tmp s) with
    | some (st1, r) => match castTo t r.x, weaker t φ r.φ, finish E ts rs st1 with
      | some y, true, some l => some (⟨t, φ, y⟩ :: l)
      | _, _, _ => none
    | none => none
  | (t, φ) :: ts, .cell s ty :: rs, st => match st.at s, E.τ ty with
    | .bx _ _ _ _, some u => match Ty.beq u t, takeAt st s [] with
      | true, some (st1, r) => match castTo t r.x, weaker t φ r.φ, finish E ts rs st1 with
        | some y, true, some l => some (⟨t, φ, y⟩ :: l)
        | _, _, _ => none
      | _, _ => none
    | _, _ => none
  | _, _, _ => none

def start (n : Nat) (args : List Ct) : St := args.map (fun c => .v c.t .no c.x) ++ List.replicate (n - args.length) .dead

/-- A function at contents. -/
def evFn (E : Env) (L : Nat → Option LoopSpec) (fn : Func) (rs : List (Ty × Fl)) (args : List Ct) : Option (List Res) := match fn.body, Nat.ble args.length fn.ntmps with
  | some c, true => exec E L 0 c (start fn.ntmps args) fun e st => match e with
    | .exit _ => none
    | _ => finish E rs fn.results.toList st
  | _, _ => none

def loopsIn : Nat → Code → List (Nat × Code)
  | cur, .seq a b => loopsIn cur a ++ loopsIn cur b
  | cur, .cond _ a b => loopsIn cur a ++ loopsIn cur b
  | _, .block id b => loopsIn id b
  | cur, .loop b => (cur, b) :: loopsIn cur b
  | _, _ => []
end
end Go.Ev
/-
  What a content has to do with memory: the relation, and how it fares when memory turns elsewhere.
-/
namespace Go.Ev

def mkVal (t : Ty) (cs : List Value) : Value := if t.agg then .agg cs.toArray else cs.headD undef

/-- A function without captures, by its number. -/
def fnuV : Option Nat → Value
  | none => .nilFunc
  | some f => .func (.func f) #[] #[]
theorem fnuV_cells (x : Option Nat) : (fnuV x).cells = #[fnuV x] := by cases x <;> rfl

def Mem (w : World) (b off : Nat) (cs : List Value) : Prop :=
  ∃ ccs T fr, w.heap[b]? = some (.cells ccs T fr) ∧ ∀ j (h : j < cs.length), ccs[off + j]? = some cs[j]

theorem Mem.of_heap {w w' : World} {b off : Nat} {cs : List Value} (h : Mem w b off cs) (hb : w'.heap[b]? = w.heap[b]?) : Mem w' b off cs := by
  obtain ⟨ccs, T, fr, h1, h2⟩ := h
  exact ⟨ccs, T, fr, hb.trans h1, h2⟩

section
variable (tg : Nat → Value)

/-- The cells cs hold the content x; what is owned of it lies in the blocks fp, the rest in blocks that B allows. -/
def Rep (w : World) (B : Nat → Prop) : (t : Ty) → Fl → El t → List Value → List Nat → Prop
  | .int k, _, x, cs, fp => cs = [.int k x] ∧ fp = []
  | .bool, _, x, cs, fp => cs = [.bool x] ∧ fp = []
  | .fnu, _, x, cs, fp => cs = [fnuV x] ∧ fp = []
  | .str, _, x, cs, fp => cs = [.string x] ∧ fp = []
  | .unit, _, _, cs, fp => cs = [] ∧ fp = []
  | .prod a b, φ, x, cs, fp => ∃ c1 c2 f1 f2, cs = c1 ++ c2 ∧ fp = f1 ++ f2 ∧ Rep w B a φ.l x.1 c1 f1 ∧ Rep w B b φ.r x.2 c2 f2
  | .ptr e, _, x, cs, fp => fp = [] ∧ ∃ b off ds, cs = [.pointer (some ⟨b, off, none⟩)] ∧ B b ∧ ds.length = e.size ∧ Mem w b off ds ∧ Rep w B e .no x ds []
  | .fn f c, _, x, cs, fp => fp = [] ∧ ∃ caps : List Value, cs = [.func (.func f) #[] caps.toArray] ∧ Rep w B c .no x caps []
  | .sl e, φ, xs, cs, fp => ∃ A n c, cs = [.slice A n c] ∧ match φ with
    | .gone => fp = []
    | .own g φe => n = xs.length ∧ n ≤ c ∧ (∀ q, g = some q → tg q = .slice A n c) ∧
        ((A = none ∧ xs = [] ∧ c = 0 ∧ fp = []) ∨
          ∃ (b off : Nat) (ccs : Array Value) (T : TypeId) (fps : List (List Nat)), A = some ⟨b, off, none⟩ ∧ w.heap[b]? = some (.cells ccs T (0, 0)) ∧ off + c * e.size ≤ ccs.size ∧
            fps.length = xs.length ∧ fp = b :: fps.flatten ∧
            ∀ i (h : i < xs.length), Rep w B e φe xs[i] ((ccs.toList.drop (off + i * e.size)).take e.size) (fps.getD i []))
    | _ => n = xs.length ∧ n ≤ c ∧ fp = [] ∧ ∀ i (h : i < xs.length), ∃ b off ds, A = some ⟨b, off, none⟩ ∧ B b ∧ ds.length = e.size ∧
        Mem w b (off + i * e.size) ds ∧ Rep w B e .no xs[i] ds []

variable {tg}

theorem Rep.len {w : World} {B : Nat → Prop} : ∀ {t : Ty} {φ : Fl} {x : El t} {cs : List Value} {fp : List Nat}, Rep tg w B t φ x cs fp → cs.length = t.size
  | .int _, _, _, _, _, h => by simp [Rep] at h; simp [h.1, Ty.size]
  | .bool, _, _, _, _, h => by simp [Rep] at h; simp [h.1, Ty.size]
  | .fnu, _, _, _, _, h => by simp [Rep] at h; simp [h.1, Ty.size]
  | .str, _, _, _, _, h => by simp [Rep] at h; simp [h.1, Ty.size]
  | .unit, _, _, _, _, h => by simp [Rep] at h; simp [h.1, Ty.size]
  | .ptr _, _, _, _, _, h => by obtain ⟨_, b, off, ds, rfl, _⟩ := h; simp [Ty.size]
  | .fn _ _, _, _, _, _, h => by obtain ⟨_, caps, rfl, _⟩ := h; simp [Ty.size]
  | .sl _, _, _, _, _, h => by obtain ⟨A, n, c, rfl, _⟩ := h; simp [Ty.size]
  | .prod a b, _, _, _, _, h => by
    obtain ⟨c1, c2, f1, f2, rfl, rfl, h1, h2⟩ := h
    simp [Ty.size, h1.len, h2.len]

theorem getD_mem_flatten {fps : List (List Nat)} {i b : Nat} (h : b ∈ fps.getD i []) : b ∈ fps.flatten := by
  by_cases hi : i < fps.length
  · rw [List.getD_eq_getElem?_getD, List.getElem?_eq_getElem hi] at h
    exact List.mem_flatten.2 ⟨_, List.getElem_mem hi, h⟩
  · rw [List.getD_eq_getElem?_getD, List.getElem?_eq_none (by omega)] at h
    simp at h

/-- Memory turned elsewhere; more blocks are allowed. -/
theorem Rep.mono {w w' : World} {B B' : Nat → Prop} (hB : ∀ b, B b → B' b) : ∀ {t : Ty} {φ : Fl} {x : El t} {cs : List Value} {fp : List Nat},
    Rep tg w B t φ x cs fp → (∀ b, B b ∨ b ∈ fp → w'.heap[b]? = w.heap[b]?) → Rep tg w' B' t φ x cs fp
  | .int _, _, _, _, _, h, _ => h
  | .bool, _, _, _, _, h, _ => h
  | .fnu, _, _, _, _, h, _ => h
  | .str, _, _, _, _, h, _ => h
  | .unit, _, _, _, _, h, _ => h
  | .ptr _, _, _, _, _, h, hw => by
    obtain ⟨rfl, b, off, ds, rfl, hb, hl, hm, hr⟩ := h
    exact ⟨rfl, b, off, ds, rfl, hB _ hb, hl, hm.of_heap (hw b (.inl hb)), hr.mono hB (fun b hb => hw b (by simpa using hb))⟩
  | .fn _ _, _, _, _, _, h, hw => by
    obtain ⟨rfl, caps, rfl, hr⟩ := h
    exact ⟨rfl, caps, rfl, hr.mono hB hw⟩
  | .prod a b, _, _, _, _, h, hw => by
    obtain ⟨c1, c2, f1, f2, rfl, rfl, h1, h2⟩ := h
    exact ⟨c1, c2, f1, f2, rfl, rfl, h1.mono hB (fun b hb => hw b (hb.imp id (by simp; exact .inl))), h2.mono hB (fun b hb => hw b (hb.imp id (by simp; exact .inr)))⟩
  | .sl e, φ, xs, cs, fp, h, hw => by
    obtain ⟨A, n, c, rfl, h⟩ := h
    refine ⟨A, n, c, rfl, ?_⟩
    cases φ with
    | gone => exact h
    | own g φe =>
      obtain ⟨h1, h2, h3, h4⟩ := h
      refine ⟨h1, h2, h3, h4.imp id ?_⟩
      rintro ⟨b, off, ccs, T, fps, rfl, h5, h6, h7, rfl, h8⟩
      refine ⟨b, off, ccs, T, fps, rfl, (hw b (.inr (by simp))).trans h5, h6, h7, rfl, fun i hi => (h8 i hi).mono hB fun b' hb' => hw b' (hb'.imp id fun h => ?_)⟩
      exact List.mem_cons_of_mem _ (getD_mem_flatten h)
    | no =>
      obtain ⟨h1, h2, rfl, h3⟩ := h
      refine ⟨h1, h2, rfl, fun i hi => ?_⟩
      obtain ⟨b, off, ds, rfl, hb, hl, hm, hr⟩ := h3 i hi
      exact ⟨b, off, ds, rfl, hB _ hb, hl, hm.of_heap (hw b (.inl hb)), hr.mono hB hw⟩
    | pr p q =>
      obtain ⟨h1, h2, rfl, h3⟩ := h
      refine ⟨h1, h2, rfl, fun i hi => ?_⟩
      obtain ⟨b, off, ds, rfl, hb, hl, hm, hr⟩ := h3 i hi
      exact ⟨b, off, ds, rfl, hB _ hb, hl, hm.of_heap (hw b (.inl hb)), hr.mono hB hw⟩

theorem Rep.imp {w : World} {B B' : Nat → Prop} {t : Ty} {φ : Fl} {x : El t} {cs : List Value} {fp : List Nat} (h : Rep tg w B t φ x cs fp) (hB : ∀ b, B b → B' b) : Rep tg w B' t φ x cs fp :=
  h.mono hB fun _ _ => rfl

theorem mem_of_cells {w : World} {b off n : Nat} {ccs : Array Value} {T : TypeId} {fr : Nat × Nat} (hb : w.heap[b]? = some (.cells ccs T fr)) (hn : off + n ≤ ccs.size) :
    ((ccs.toList.drop off).take n).length = n ∧ Mem w b off ((ccs.toList.drop off).take n) := by
  have hl : ((ccs.toList.drop off).take n).length = n := by simp; omega
  refine ⟨hl, ccs, T, fr, hb, fun j hj => ?_⟩
  have hj' : j < n := by omega
  rw [List.getElem_take, List.getElem_drop]
  rw [Array.getElem?_eq_getElem (by omega)]
  simp

theorem row_fits {i n c s off m : Nat} (h : i < n) (hn : n ≤ c) (hc : off + c * s ≤ m) : off + i * s + s ≤ m := by
  have : (i + 1) * s ≤ c * s := Nat.mul_le_mul_right _ (by omega)
  rw [Nat.add_mul] at this
  omega

/-- Ownership is given up: what was owned may be read from now on. -/
theorem Rep.forget {w : World} {B : Nat → Prop} : ∀ {t : Ty} {φ : Fl} {x : El t} {cs : List Value} {fp : List Nat},
    Rep tg w B t φ x cs fp → clean t φ = true → Rep tg w (fun b => B b ∨ b ∈ fp) t .no x cs []
  | .int _, _, _, _, _, h, _ => ⟨h.1, rfl⟩
  | .bool, _, _, _, _, h, _ => ⟨h.1, rfl⟩
  | .fnu, _, _, _, _, h, _ => ⟨h.1, rfl⟩
  | .str, _, _, _, _, h, _ => ⟨h.1, rfl⟩
  | .unit, _, _, _, _, h, _ => ⟨h.1, rfl⟩
  | .ptr _, _, _, _, _, h, _ => by
    obtain ⟨rfl, b, off, ds, rfl, hb, hl, hm, hr⟩ := h
    exact ⟨rfl, b, off, ds, rfl, .inl hb, hl, hm, hr.imp fun _ => .inl⟩
  | .fn _ _, _, _, _, _, h, _ => by
    obtain ⟨rfl, caps, rfl, hr⟩ := h
    exact ⟨rfl, caps, rfl, hr.imp fun _ => .inl⟩
  | .prod a b, _, _, _, _, h, hc => by
    obtain ⟨c1, c2, f1, f2, rfl, rfl, h1, h2⟩ := h
    simp only [clean, Bool.and_eq_true] at hc
    refine ⟨c1, c2, [], [], rfl, rfl, (h1.forget hc.1).imp fun b hb => ?_, (h2.forget hc.2).imp fun b hb => ?_⟩
    · exact hb.imp id (by simp; exact .inl)
    · exact hb.imp id (by simp; exact .inr)
  | .sl e, φ, xs, cs, fp, h, hc => by
    obtain ⟨A, n, c, rfl, h⟩ := h
    refine ⟨A, n, c, rfl, ?_⟩
    cases φ with
    | gone => simp [clean] at hc
    | own g φe =>
      obtain ⟨h1, h2, h3, h4⟩ := h
      refine ⟨h1, h2, rfl, fun i hi => ?_⟩
      rcases h4 with ⟨_, rfl, _⟩ | ⟨b, off, ccs, T, fps, rfl, h5, h6, h7, rfl, h8⟩
      · simp at hi
      · obtain ⟨hl, hm⟩ := mem_of_cells (n := e.size) h5 (row_fits hi (by omega) h6)
        exact ⟨b, off, _, rfl, .inr (by simp), hl, hm, ((h8 i hi).forget (by simpa [clean] using hc)).imp fun b' hb' => hb'.imp id fun h => List.mem_cons_of_mem _ (getD_mem_flatten h)⟩
    | no =>
      obtain ⟨h1, h2, rfl, h3⟩ := h
      refine ⟨h1, h2, rfl, fun i hi => ?_⟩
      obtain ⟨b, off, ds, rfl, hb, hl, hm, hr⟩ := h3 i hi
      exact ⟨b, off, ds, rfl, .inl hb, hl, hm, hr.imp fun _ => .inl⟩
    | pr p q =>
      obtain ⟨h1, h2, rfl, h3⟩ := h
      refine ⟨h1, h2, rfl, fun i hi => ?_⟩
      obtain ⟨b, off, ds, rfl, hb, hl, hm, hr⟩ := h3 i hi
      exact ⟨b, off, ds, rfl, .inl hb, hl, hm, hr.imp fun _ => .inl⟩

theorem clean_full : ∀ (t : Ty), clean t (fullFl t) = true
  | .int _ => rfl
  | .bool => rfl
  | .fnu => rfl
  | .str => rfl
  | .unit => rfl
  | .ptr _ => rfl
  | .fn _ _ => rfl
  | .sl e => clean_full e
  | .prod a b => by simp only [fullFl, clean, Fl.l, Fl.r, clean_full a, clean_full b]; rfl

theorem Rep.slNo {w : World} {B : Nat → Prop} {e : Ty} {φ : Fl} {xs : El (.sl e)} {cs : List Value} {fp : List Nat} (h : Rep tg w B (.sl e) φ xs cs fp)
    (h1 : ∀ g φ', φ ≠ .own g φ') (h2 : φ ≠ .gone) : Rep tg w B (.sl e) .no xs cs [] ∧ fp = [] := by
  obtain ⟨A, n, c, rfl, h⟩ := h
  cases φ with
  | gone => exact absurd rfl h2
  | own g φ' => exact absurd rfl (h1 g φ')
  | no => exact ⟨⟨A, n, c, rfl, h.1, h.2.1, rfl, h.2.2.2⟩, h.2.2.1⟩
  | pr p q => exact ⟨⟨A, n, c, rfl, h.1, h.2.1, rfl, h.2.2.2⟩, h.2.2.1⟩

/-- What holds nothing of memory has the same cells under any flags, in any world. -/
theorem Rep.flat {w w' : World} {B B' : Nat → Prop} {φ' : Fl} : ∀ {t : Ty} {φ : Fl} {x : El t} {cs : List Value} {fp : List Nat},
    Rep tg w B t φ x cs fp → t.flat = true → Rep tg w' B' t φ' x cs [] ∧ fp = []
  | .int _, _, _, _, _, h, _ => ⟨⟨h.1, rfl⟩, h.2⟩
  | .bool, _, _, _, _, h, _ => ⟨⟨h.1, rfl⟩, h.2⟩
  | .fnu, _, _, _, _, h, _ => ⟨⟨h.1, rfl⟩, h.2⟩
  | .str, _, _, _, _, h, _ => ⟨⟨h.1, rfl⟩, h.2⟩
  | .unit, _, _, _, _, h, _ => ⟨⟨h.1, rfl⟩, h.2⟩
  | .prod a b, _, _, _, _, h, hf => by
    obtain ⟨c1, c2, f1, f2, rfl, rfl, h1, h2⟩ := h
    simp only [Ty.flat, Bool.and_eq_true] at hf
    obtain ⟨a1, rfl⟩ := h1.flat (w' := w') (B' := B') (φ' := φ'.l) hf.1
    obtain ⟨a2, rfl⟩ := h2.flat (w' := w') (B' := B') (φ' := φ'.r) hf.2
    exact ⟨⟨c1, c2, [], [], rfl, rfl, a1, a2⟩, rfl⟩

theorem Rep.norm {w : World} {B : Nat → Prop} : ∀ {t : Ty} {φ : Fl} {x : El t} {cs : List Value} {fp : List Nat}, Rep tg w B t φ x cs fp → Rep tg w B t (norm t φ) x cs fp
  | .int _, _, _, _, _, h => h
  | .bool, _, _, _, _, h => h
  | .fnu, _, _, _, _, h => h
  | .str, _, _, _, _, h => h
  | .unit, _, _, _, _, h => h
  | .ptr _, _, _, _, _, h => h
  | .fn _ _, _, _, _, _, h => h
  | .prod a b, φ, x, _, _, h => by
    simp only [Ev.norm]
    split
    · rename_i hf
      obtain ⟨h', rfl⟩ := h.flat (w' := w) (B' := B) (φ' := .no) hf
      exact h'
    · obtain ⟨c1, c2, f1, f2, rfl, rfl, h1, h2⟩ := h
      exact ⟨c1, c2, f1, f2, rfl, rfl, h1.norm, h2.norm⟩
  | .sl e, φ, xs, cs, fp, h => by
    cases φ with
    | gone => exact h
    | own g φe =>
      obtain ⟨A, n, c, rfl, h1, h2, h3, h4⟩ := h
      refine ⟨A, n, c, rfl, h1, h2, by simp, h4.imp id ?_⟩
      rintro ⟨b, off, ccs, T, fps, rfl, h5, h6, h7, rfl, h8⟩
      exact ⟨b, off, ccs, T, fps, rfl, h5, h6, h7, rfl, fun i hi => (h8 i hi).norm⟩
    | no => exact h
    | pr p q => obtain ⟨h', rfl⟩ := h.slNo (by simp) (by simp); exact h'

theorem Rep.full {w : World} {B B' : Nat → Prop} : ∀ {t : Ty} {φ : Fl} {x : El t} {cs : List Value} {fp : List Nat}, Rep tg w B t φ x cs fp → full t φ = true → Rep tg w B' t φ x cs fp
  | .int _, _, _, _, _, h, _ => h
  | .bool, _, _, _, _, h, _ => h
  | .fnu, _, _, _, _, h, _ => h
  | .str, _, _, _, _, h, _ => h
  | .unit, _, _, _, _, h, _ => h
  | .prod a b, φ, x, _, _, h, hf => by
    obtain ⟨c1, c2, f1, f2, rfl, rfl, h1, h2⟩ := h
    simp only [Ev.full, Bool.and_eq_true] at hf
    exact ⟨c1, c2, f1, f2, rfl, rfl, h1.full hf.1, h2.full hf.2⟩
  | .sl e, φ, xs, cs, fp, h, hf => by
    cases φ with
    | own g φe =>
      obtain ⟨A, n, c, rfl, h1, h2, h3, h4⟩ := h
      refine ⟨A, n, c, rfl, h1, h2, h3, h4.imp id ?_⟩
      rintro ⟨b, off, ccs, T, fps, rfl, h5, h6, h7, rfl, h8⟩
      exact ⟨b, off, ccs, T, fps, rfl, h5, h6, h7, rfl, fun i hi => (h8 i hi).full hf⟩
    | _ => simp [Ev.full] at hf

/-- Nothing is owned: no blocks. -/
theorem Rep.fp_nil {w : World} {B : Nat → Prop} : ∀ {t : Ty} {φ : Fl} {x : El t} {cs : List Value} {fp : List Nat}, Rep tg w B t φ x cs fp → hasOwn t φ = false → fp = []
  | .int _, _, _, _, _, h, _ => h.2
  | .bool, _, _, _, _, h, _ => h.2
  | .fnu, _, _, _, _, h, _ => h.2
  | .str, _, _, _, _, h, _ => h.2
  | .unit, _, _, _, _, h, _ => h.2
  | .ptr _, _, _, _, _, h, _ => h.1
  | .fn _ _, _, _, _, _, h, _ => h.1
  | .prod a b, φ, x, _, _, h, hf => by
    obtain ⟨c1, c2, f1, f2, rfl, rfl, h1, h2⟩ := h
    simp only [hasOwn, Bool.or_eq_false_iff] at hf
    simp [h1.fp_nil hf.1, h2.fp_nil hf.2]
  | .sl e, φ, xs, cs, fp, h, hf => by
    cases φ with
    | own g φe => simp [hasOwn] at hf
    | gone => obtain ⟨A, n, c, rfl, h⟩ := h; exact h
    | no => exact (h.slNo (by simp) (by simp)).2
    | pr p q => exact (h.slNo (by simp) (by simp)).2

/-- Nothing owned and nothing gone: the flags may fall. -/
theorem Rep.bare {w : World} {B : Nat → Prop} {t : Ty} {φ : Fl} {x : El t} {cs : List Value} {fp : List Nat} (h : Rep tg w B t φ x cs fp) (ho : hasOwn t φ = false) (hc : clean t φ = true) :
    Rep tg w B t .no x cs [] := by
  have e := h.fp_nil ho
  subst e
  exact (h.forget hc).imp (by simp)

/-- What is owned is taken away. -/
theorem Rep.gone {w : World} {B : Nat → Prop} : ∀ {t : Ty} {φ : Fl} {x : El t} {cs : List Value} {fp : List Nat}, Rep tg w B t φ x cs fp → Rep tg w B t (goneFl t φ) x cs []
  | .int _, _, _, _, _, h => ⟨h.1, rfl⟩
  | .bool, _, _, _, _, h => ⟨h.1, rfl⟩
  | .fnu, _, _, _, _, h => ⟨h.1, rfl⟩
  | .str, _, _, _, _, h => ⟨h.1, rfl⟩
  | .unit, _, _, _, _, h => ⟨h.1, rfl⟩
  | .ptr _, _, _, _, _, h => by obtain ⟨rfl, h⟩ := h; exact ⟨rfl, h⟩
  | .fn _ _, _, _, _, _, h => by obtain ⟨rfl, h⟩ := h; exact ⟨rfl, h⟩
  | .prod a b, φ, x, _, _, h => by
    obtain ⟨c1, c2, f1, f2, rfl, rfl, h1, h2⟩ := h
    exact ⟨c1, c2, [], [], rfl, rfl, h1.gone, h2.gone⟩
  | .sl e, φ, xs, cs, fp, h => by
    cases φ with
    | own g φe => obtain ⟨A, n, c, rfl, h⟩ := h; exact ⟨A, n, c, rfl, rfl⟩
    | gone => obtain ⟨A, n, c, rfl, h⟩ := h; exact ⟨A, n, c, rfl, rfl⟩
    | no => exact (h.slNo (by simp) (by simp)).1
    | pr p q =>
      obtain ⟨A, n, c, rfl, h1, h2, rfl, h3⟩ := h
      exact ⟨A, n, c, rfl, h1, h2, rfl, h3⟩

theorem clean_of_weaker : ∀ {t : Ty} {φ : Fl}, weaker t .no φ = true → clean t φ = true
  | .int _, _, _ => rfl
  | .bool, _, _ => rfl
  | .fnu, _, _ => rfl
  | .str, _, _ => rfl
  | .unit, _, _ => rfl
  | .ptr _, _, _ => rfl
  | .fn _ _, _, _ => rfl
  | .prod a b, φ, h => by
    simp only [weaker, Bool.and_eq_true, Fl.l, Fl.r] at h
    simp only [clean, Bool.and_eq_true]
    exact ⟨clean_of_weaker h.1, clean_of_weaker h.2⟩
  | .sl e, φ, h => by
    cases φ with
    | gone => simp [weaker] at h
    | own g φ => exact clean_of_weaker (t := e) (by simpa [weaker] using h)
    | _ => rfl

/-- Weaker flags: some of the blocks are no longer owned, but may be read. -/
theorem Rep.weak {w : World} {B : Nat → Prop} : ∀ {t : Ty} {φ φ' : Fl} {x : El t} {cs : List Value} {fp : List Nat}, Rep tg w B t φ' x cs fp → weaker t φ φ' = true →
    ∃ fp', fp'.Sublist fp ∧ (fp.Nodup → Rep tg w (fun b => B b ∨ (b ∈ fp ∧ b ∉ fp')) t φ x cs fp')
  | .int _, _, _, _, _, _, h, _ => ⟨[], by simp [h.2], fun _ => ⟨h.1, rfl⟩⟩
  | .bool, _, _, _, _, _, h, _ => ⟨[], by simp [h.2], fun _ => ⟨h.1, rfl⟩⟩
  | .fnu, _, _, _, _, _, h, _ => ⟨[], by simp [h.2], fun _ => ⟨h.1, rfl⟩⟩
  | .str, _, _, _, _, _, h, _ => ⟨[], by simp [h.2], fun _ => ⟨h.1, rfl⟩⟩
  | .unit, _, _, _, _, _, h, _ => ⟨[], by simp [h.2], fun _ => ⟨h.1, rfl⟩⟩
  | .ptr _, _, _, _, _, _, h, _ => ⟨[], by simp [h.1], fun _ => by
    obtain ⟨rfl, b, off, ds, rfl, hb, hl, hm, hr⟩ := h
    exact ⟨rfl, b, off, ds, rfl, .inl hb, hl, hm, hr.imp fun _ => .inl⟩⟩
  | .fn _ _, _, _, _, _, _, h, _ => ⟨[], by simp [h.1], fun _ => by
    obtain ⟨rfl, caps, rfl, hr⟩ := h
    exact ⟨rfl, caps, rfl, hr.imp fun _ => .inl⟩⟩
  | .prod a b, φ, φ', x, _, _, h, hw => by
    obtain ⟨c1, c2, f1, f2, rfl, rfl, h1, h2⟩ := h
    simp only [weaker, Bool.and_eq_true] at hw
    obtain ⟨g1, s1, r1⟩ := h1.weak hw.1
    obtain ⟨g2, s2, r2⟩ := h2.weak hw.2
    refine ⟨g1 ++ g2, s1.append s2, fun hn => ?_⟩
    have hn' := List.nodup_append.1 hn
    refine ⟨c1, c2, g1, g2, rfl, rfl, (r1 hn'.1).imp fun b hb => hb.imp id fun h => ⟨by simp [h.1], fun hm => ?_⟩, (r2 hn'.2.1).imp fun b hb => hb.imp id fun h => ⟨by simp [h.1], fun hm => ?_⟩⟩
    · rcases List.mem_append.1 hm with hm | hm
      · exact h.2 hm
      · exact hn'.2.2 _ h.1 _ (s2.subset hm) rfl
    · rcases List.mem_append.1 hm with hm | hm
      · exact hn'.2.2 _ (s1.subset hm) _ h.1 rfl
      · exact h.2 hm
  | .sl e, φ, φ', xs, cs, fp, h, hw => by
    cases φ with
    | gone => obtain ⟨A, n, c, rfl, h⟩ := h; exact ⟨[], by simp, fun _ => ⟨A, n, c, rfl, rfl⟩⟩
    | own g φe =>
      cases φ' with
      | own g' φe' =>
        obtain ⟨hgg, hw'⟩ : (∀ q, g = some q → g' = some q) ∧ weaker e φe φe' = true := by
          cases g with
          | none => exact ⟨by simp, by simpa [weaker] using hw⟩
          | some q =>
            cases g' with
            | none => simp [weaker] at hw
            | some q' =>
              simp only [weaker, Bool.and_eq_true] at hw
              have := Nat.eq_of_beq_eq_true hw.1
              subst this
              exact ⟨fun _ h => h, hw.2⟩
        exact (by
          obtain ⟨A, n, c, rfl, h1, h2, h3, h4⟩ := h
          rcases h4 with ⟨rfl, rfl, rfl, rfl⟩ | ⟨b, off, ccs, T, fps, rfl, h5, h6, h7, rfl, h8⟩
          · exact ⟨[], by simp, fun _ => ⟨none, n, 0, rfl, h1, h2, fun q hq => h3 q (hgg q hq), .inl ⟨rfl, rfl, rfl, rfl⟩⟩⟩
          · have hx : ∀ i : Nat, ∃ f : List Nat, f.Sublist (fps.getD i []) ∧ ∀ h : i < xs.length, (fps.getD i []).Nodup → Rep tg w (fun b => B b ∨ (b ∈ fps.getD i [] ∧ b ∉ f)) e φe xs[i] ((ccs.toList.drop (off + i * e.size)).take e.size) f := by
              intro i
              by_cases hi : i < xs.length
              · obtain ⟨f, hs, hr⟩ := (h8 i hi).weak hw'
                exact ⟨f, hs, fun _ => hr⟩
              · exact ⟨[], by simp, fun h => absurd h hi⟩
            obtain ⟨F, hF⟩ := Classical.axiomOfChoice hx
            have hsub : ∀ n, ((List.range n).map F).flatten.Sublist ((List.range n).map fun i => fps.getD i []).flatten := by
              intro n
              induction n with
              | zero => simp
              | succ n ih =>
                rw [List.range_succ, List.map_append, List.map_append, List.flatten_append, List.flatten_append]
                exact ih.append (by simpa using (hF n).1)
            have hfps : (List.range xs.length).map (fun i => fps.getD i []) = fps := by
              apply List.ext_getElem
              · simp [h7]
              · intro i h1 h2
                simp [List.getD_eq_getElem?_getD, List.getElem?_eq_getElem h2]
            have hS := hsub xs.length
            rw [hfps] at hS
            refine ⟨b :: ((List.range xs.length).map F).flatten, hS.cons_cons b, fun hn => ?_⟩
            refine ⟨some ⟨b, off, none⟩, n, c, rfl, h1, h2, fun q hq => h3 q (hgg q hq), .inr ⟨b, off, ccs, T, (List.range xs.length).map F, rfl, h5, h6, by simp, rfl, fun i hi => ?_⟩⟩
            have hi' : i < fps.length := by omega
            have hn2 := (List.nodup_cons.1 hn).2
            have hni : (fps.getD i []).Nodup := by
              rw [List.getD_eq_getElem?_getD, List.getElem?_eq_getElem hi']
              exact (List.pairwise_flatten.1 hn2).1 _ (List.getElem_mem hi')
            have he : ((List.range xs.length).map F).getD i [] = F i := by
              rw [List.getD_eq_getElem?_getD, List.getElem?_eq_getElem (by simpa using hi)]
              simp
            rw [he]
            refine ((hF i).2 hi hni).imp fun b' hb' => hb'.imp id fun h => ⟨List.mem_cons_of_mem _ (getD_mem_flatten h.1), fun hm => ?_⟩
            rcases List.mem_cons.1 hm with rfl | hm
            · exact (List.nodup_cons.1 hn).1 (getD_mem_flatten h.1)
            · obtain ⟨l, hl, hbl⟩ := List.mem_flatten.1 hm
              obtain ⟨j, hj, rfl⟩ := List.mem_map.1 hl
              have hj' : j < fps.length := by simpa [h7] using hj
              by_cases hij : j = i
              · subst hij; exact h.2 hbl
              · have hp := (List.pairwise_flatten.1 hn2).2
                have h1 : b' ∈ fps[j] := by have := (hF j).1.subset hbl; rwa [List.getD_eq_getElem?_getD, List.getElem?_eq_getElem hj'] at this
                have h2 : b' ∈ fps[i] := by have := h.1; rwa [List.getD_eq_getElem?_getD, List.getElem?_eq_getElem hi'] at this
                rcases Nat.lt_or_gt_of_ne hij with hlt | hlt
                · exact List.pairwise_iff_getElem.1 hp j i hj' hi' hlt b' h1 b' h2 rfl
                · exact List.pairwise_iff_getElem.1 hp i j hi' hj' hlt b' h2 b' h1 rfl)
      | no => cases g <;> simp [weaker] at hw
      | gone => cases g <;> simp [weaker] at hw
      | pr p q => cases g <;> simp [weaker] at hw
    | no =>
      cases φ' with
      | gone => simp [weaker] at hw
      | own g' φe' =>
        have hw' : weaker e .no φe' = true := by simpa [weaker] using hw
        exact ⟨[], by simp, fun _ => (h.forget (by simpa [clean] using clean_of_weaker hw')).imp fun b hb => hb.imp id fun h => ⟨h, by simp⟩⟩
      | no => exact ⟨[], by simp, fun _ => (h.slNo (by simp) (by simp)).1.imp fun _ => .inl⟩
      | pr p q => exact ⟨[], by simp, fun _ => (h.slNo (by simp) (by simp)).1.imp fun _ => .inl⟩
    | pr p q => cases φ' <;> simp [weaker] at hw
end
end Go.Ev
/-
  Parts of contents: what is read and written at a part.
-/
namespace Go.Ev

theorem castTo_some {t u : Ty} {x : El u} {y : El t} (h : castTo t x = some y) : ∃ e : u = t, y = e ▸ x := by
  unfold castTo at h
  split at h
  · rename_i hb
    simp at h
    exact ⟨Ty.eq_of_beq hb, h.symm⟩
  · cases h

section
variable {tg : Nat → Value}

theorem Rep.cast {w : World} {B : Nat → Prop} {t u : Ty} {φ : Fl} {x : El u} {y : El t} {cs : List Value} {fp : List Nat} (h : castTo t x = some y) (hr : Rep tg w B u φ x cs fp) :
    Rep tg w B t φ y cs fp := by
  obtain ⟨rfl, rfl⟩ := castTo_some h
  exact hr

/-- A part: its cells, its blocks; and what another part in its place makes of the whole. -/
theorem Rep.part {w : World} {B : Nat → Prop} : ∀ (p : List Bool) {t : Ty} {φ : Fl} {x : El t} {cs : List Value} {fp : List Nat} {r : Res},
    Rep tg w B t φ x cs fp → getP p t φ x = some r →
    ∃ c1 cm c3 f1 fm f3, cs = c1 ++ cm ++ c3 ∧ fp = f1 ++ fm ++ f3 ∧ partOff p t = some (c1.length, r.t) ∧ Rep tg w B r.t r.φ r.x cm fm ∧
      Rep tg w B t (goneP p t φ) x cs (f1 ++ f3) ∧
      ∀ (w' : World) (B' : Nat → Prop) (r' n : Res) (cm' : List Value) (fm' : List Nat), (∀ b, B b → B' b) → (∀ b, B b ∨ b ∈ f1 ∨ b ∈ f3 → w'.heap[b]? = w.heap[b]?) →
        setP p t φ x r' = some n → Rep tg w' B' r'.t r'.φ r'.x cm' fm' → n.t = t ∧ Rep tg w' B' n.t n.φ n.x (c1 ++ cm' ++ c3) (f1 ++ fm' ++ f3)
  | [], t, φ, x, cs, fp, r, h, hp => by
    simp only [getP, Option.some.injEq] at hp
    subst hp
    refine ⟨[], cs, [], [], fp, [], by simp, by simp, rfl, h, by simpa [goneP] using h.gone, ?_⟩
    intro w' B' r' n cm' fm' hB hw hs hr
    simp only [setP] at hs
    split at hs
    · rename_i y hy
      simp only [Option.some.injEq] at hs
      subst hs
      exact ⟨rfl, by simpa using hr.cast hy⟩
    · cases hs
  | true :: p, .prod a b, φ, x, cs, fp, r, h, hp => by
    obtain ⟨c1, c2, f1, f2, rfl, rfl, h1, h2⟩ := h
    simp only [getP] at hp
    obtain ⟨d1, dm, d3, g1, gm, g3, rfl, rfl, ho, hm, hg, hs⟩ := h1.part p hp
    refine ⟨d1, dm, d3 ++ c2, g1, gm, g3 ++ f2, by simp, by simp, ho, hm, ?_, ?_⟩
    · exact ⟨_, c2, g1 ++ g3, f2, by simp, by simp, hg, h2⟩
    · intro w' B' r' n cm' fm' hB hw hset hr
      simp only [setP] at hset
      split at hset
      · rename_i z hz
        split at hset
        · rename_i y hy
          simp only [Option.some.injEq] at hset
          subst hset
          obtain ⟨_, hz'⟩ := hs w' B' r' z cm' fm' hB (fun b hb => hw b (by
            rcases hb with hb | hb | hb
            · exact .inl hb
            · exact .inr (.inl hb)
            · exact .inr (.inr (by simp [hb])))) hz hr
          refine ⟨rfl, d1 ++ cm' ++ d3, c2, g1 ++ fm' ++ g3, f2, by simp, by simp, hz'.cast hy, ?_⟩
          exact h2.mono hB fun b hb => hw b (by
            rcases hb with hb | hb
            · exact .inl hb
            · exact .inr (.inr (by simp [hb])))
        · cases hset
      · cases hset
  | false :: p, .prod a b, φ, x, cs, fp, r, h, hp => by
    obtain ⟨c1, c2, f1, f2, rfl, rfl, h1, h2⟩ := h
    simp only [getP] at hp
    obtain ⟨d1, dm, d3, g1, gm, g3, rfl, rfl, ho, hm, hg, hs⟩ := h2.part p hp
    refine ⟨c1 ++ d1, dm, d3, f1 ++ g1, gm, g3, by simp, by simp, ?_, hm, ?_, ?_⟩
    · simp [partOff, ho, h1.len]
    · exact ⟨c1, _, f1, g1 ++ g3, by simp, by simp, h1, hg⟩
    · intro w' B' r' n cm' fm' hB hw hset hr
      simp only [setP] at hset
      split at hset
      · rename_i z hz
        split at hset
        · rename_i y hy
          simp only [Option.some.injEq] at hset
          subst hset
          obtain ⟨_, hz'⟩ := hs w' B' r' z cm' fm' hB (fun b hb => hw b (by
            rcases hb with hb | hb | hb
            · exact .inl hb
            · exact .inr (.inl (by simp [hb]))
            · exact .inr (.inr hb))) hz hr
          refine ⟨rfl, c1, d1 ++ cm' ++ d3, f1, g1 ++ fm' ++ g3, by simp, by simp, ?_, hz'.cast hy⟩
          exact h1.mono hB fun b hb => hw b (by
            rcases hb with hb | hb
            · exact .inl hb
            · exact .inr (.inl (by simp [hb])))
        · cases hset
      · cases hset
  | true :: p, .int _, _, _, _, _, _, _, hp => by simp [getP] at hp
  | true :: p, .bool, _, _, _, _, _, _, hp => by simp [getP] at hp
  | true :: p, .fnu, _, _, _, _, _, _, hp => by simp [getP] at hp
  | true :: p, .str, _, _, _, _, _, _, hp => by simp [getP] at hp
  | true :: p, .sl _, _, _, _, _, _, _, hp => by simp [getP] at hp
  | true :: p, .unit, _, _, _, _, _, _, hp => by simp [getP] at hp
  | true :: p, .ptr _, _, _, _, _, _, _, hp => by simp [getP] at hp
  | true :: p, .fn _ _, _, _, _, _, _, _, hp => by simp [getP] at hp
  | false :: p, .int _, _, _, _, _, _, _, hp => by simp [getP] at hp
  | false :: p, .bool, _, _, _, _, _, _, hp => by simp [getP] at hp
  | false :: p, .fnu, _, _, _, _, _, _, hp => by simp [getP] at hp
  | false :: p, .str, _, _, _, _, _, _, hp => by simp [getP] at hp
  | false :: p, .sl _, _, _, _, _, _, _, hp => by simp [getP] at hp
  | false :: p, .unit, _, _, _, _, _, _, hp => by simp [getP] at hp
  | false :: p, .ptr _, _, _, _, _, _, _, hp => by simp [getP] at hp
  | false :: p, .fn _ _, _, _, _, _, _, _, hp => by simp [getP] at hp

theorem getP_append : ∀ (p q : List Bool) (t : Ty) (φ : Fl) (x : El t), getP (p ++ q) t φ x = (getP p t φ x).bind fun r => getP q r.t r.φ r.x
  | [], q, t, φ, x => rfl
  | true :: p, q, .prod a b, φ, x => getP_append p q a φ.l x.1
  | false :: p, q, .prod a b, φ, x => getP_append p q b φ.r x.2
  | true :: p, q, .int _, _, _ => rfl
  | true :: p, q, .bool, _, _ => rfl
  | true :: p, q, .fnu, _, _ => rfl
  | true :: p, q, .str, _, _ => rfl
  | true :: p, q, .sl _, _, _ => rfl
  | true :: p, q, .unit, _, _ => rfl
  | true :: p, q, .ptr _, _, _ => rfl
  | true :: p, q, .fn _ _, _, _ => rfl
  | false :: p, q, .int _, _, _ => rfl
  | false :: p, q, .bool, _, _ => rfl
  | false :: p, q, .fnu, _, _ => rfl
  | false :: p, q, .str, _, _ => rfl
  | false :: p, q, .sl _, _, _ => rfl
  | false :: p, q, .unit, _, _ => rfl
  | false :: p, q, .ptr _, _, _ => rfl
  | false :: p, q, .fn _ _, _, _ => rfl

theorem partOff_append : ∀ (p q : List Bool) (t : Ty), partOff (p ++ q) t = (partOff p t).bind fun r => (partOff q r.2).map fun s => (r.1 + s.1, s.2)
  | [], q, t => by simp [partOff]
  | true :: p, q, .prod a b => partOff_append p q a
  | false :: p, q, .prod a b => by
    simp only [List.cons_append, partOff, partOff_append p q b]
    cases partOff p b with
    | none => rfl
    | some r =>
      obtain ⟨o, u⟩ := r
      simp only [Option.bind_some]
      cases partOff q u with
      | none => rfl
      | some s => simp [Nat.add_assoc]
  | true :: p, q, .int _ => rfl
  | true :: p, q, .bool => rfl
  | true :: p, q, .fnu => rfl
  | true :: p, q, .str => rfl
  | true :: p, q, .sl _ => rfl
  | true :: p, q, .unit => rfl
  | true :: p, q, .ptr _ => rfl
  | true :: p, q, .fn _ _ => rfl
  | false :: p, q, .int _ => rfl
  | false :: p, q, .bool => rfl
  | false :: p, q, .fnu => rfl
  | false :: p, q, .str => rfl
  | false :: p, q, .sl _ => rfl
  | false :: p, q, .unit => rfl
  | false :: p, q, .ptr _ => rfl
  | false :: p, q, .fn _ _ => rfl

/-- Parts that don't overlap lie apart. -/
theorem partOff_apart : ∀ {p q : List Bool} {t : Ty} {o o' : Nat} {u u' : Ty}, overlap p q = false → partOff p t = some (o, u) → partOff q t = some (o', u') → o + u.size ≤ o' ∨ o' + u'.size ≤ o
  | [], q, t, o, o', u, u', h, _, _ => by simp [overlap] at h
  | a :: p, [], t, o, o', u, u', h, _, _ => by simp [overlap] at h
  | true :: p, true :: q, .prod a b, o, o', u, u', h, h1, h2 => partOff_apart (t := a) (by simpa [overlap] using h) h1 h2
  | false :: p, false :: q, .prod a b, o, o', u, u', h, h1, h2 => by
    simp only [partOff] at h1 h2
    cases e1 : partOff p b with
    | none => simp [e1] at h1
    | some r1 =>
      cases e2 : partOff q b with
      | none => simp [e2] at h2
      | some r2 =>
        obtain ⟨i, v⟩ := r1
        obtain ⟨j, v'⟩ := r2
        simp [e1] at h1
        simp [e2] at h2
        obtain ⟨rfl, rfl⟩ := h1
        obtain ⟨rfl, rfl⟩ := h2
        have := partOff_apart (t := b) (by simpa [overlap] using h) e1 e2
        omega
  | true :: p, false :: q, .prod a b, o, o', u, u', h, h1, h2 => by
    left
    simp only [partOff] at h1 h2
    have := partOff_le h1
    cases e2 : partOff q b with
    | none => simp [e2] at h2
    | some r2 => obtain ⟨j, v'⟩ := r2; simp [e2] at h2; omega
  | false :: p, true :: q, .prod a b, o, o', u, u', h, h1, h2 => by
    right
    simp only [partOff] at h1 h2
    have := partOff_le h2
    cases e1 : partOff p b with
    | none => simp [e1] at h1
    | some r2 => obtain ⟨j, v'⟩ := r2; simp [e1] at h1; omega
  | a :: p, c :: q, .int _, _, _, _, _, _, h1, _ => by cases a <;> simp [partOff] at h1
  | a :: p, c :: q, .bool, _, _, _, _, _, h1, _ => by cases a <;> simp [partOff] at h1
  | a :: p, c :: q, .fnu, _, _, _, _, _, h1, _ => by cases a <;> simp [partOff] at h1
  | a :: p, c :: q, .str, _, _, _, _, _, h1, _ => by cases a <;> simp [partOff] at h1
  | a :: p, c :: q, .sl _, _, _, _, _, _, h1, _ => by cases a <;> simp [partOff] at h1
  | a :: p, c :: q, .unit, _, _, _, _, _, h1, _ => by cases a <;> simp [partOff] at h1
  | a :: p, c :: q, .ptr _, _, _, _, _, _, h1, _ => by cases a <;> simp [partOff] at h1
  | a :: p, c :: q, .fn _ _, _, _, _, _, _, h1, _ => by cases a <;> simp [partOff] at h1
 where
  partOff_le : ∀ {p : List Bool} {t : Ty} {o : Nat} {u : Ty}, partOff p t = some (o, u) → o + u.size ≤ t.size
    | [], t, o, u, h => by simp [partOff] at h; obtain ⟨rfl, rfl⟩ := h; simp
    | true :: p, .prod a b, o, u, h => by have := partOff_le (p := p) (t := a) h; simp only [Ty.size]; omega
    | false :: p, .prod a b, o, u, h => by
      simp only [partOff] at h
      cases e : partOff p b with
      | none => simp [e] at h
      | some r => obtain ⟨i, v⟩ := r; simp [e] at h; have := partOff_le e; simp only [Ty.size]; obtain ⟨rfl, rfl⟩ := h; omega
    | a :: p, .int _, _, _, h => by cases a <;> simp [partOff] at h
    | a :: p, .bool, _, _, h => by cases a <;> simp [partOff] at h
    | a :: p, .fnu, _, _, h => by cases a <;> simp [partOff] at h
    | a :: p, .str, _, _, h => by cases a <;> simp [partOff] at h
    | a :: p, .sl _, _, _, h => by cases a <;> simp [partOff] at h
    | a :: p, .unit, _, _, h => by cases a <;> simp [partOff] at h
    | a :: p, .ptr _, _, _, h => by cases a <;> simp [partOff] at h
    | a :: p, .fn _ _, _, _, h => by cases a <;> simp [partOff] at h
end
end Go.Ev
/-
  What the slots say of a frame and of memory.
-/
namespace Go.Ev

/-- The cells of what an owner holds. -/
def ownCells (w : World) (av : AV) (c : Value) : List Value := match av with
  | .v _ _ _ => c.cells.toList
  | .bx _ _ _ _ => match c with
    | .pointer (some a) => match w.heap[a.block]? with
      | some (.cells ccs _ _) => ccs.toList
      | _ => []
    | _ => []
  | _ => []

section
variable (tg : Nat → Value)

def RepTup (w : World) (B : Nat → Prop) : List Res → List Value → List Nat → Prop
  | [], vs, fp => vs = [] ∧ fp = []
  | r :: l, vs, fp => ∃ cs vs' f1 f2, vs = mkVal r.t cs :: vs' ∧ fp = f1 ++ f2 ∧ Rep tg w B r.t r.φ r.x cs f1 ∧ RepTup w B l vs' f2

/-- A pointer into the variable of slot u. -/
def PlRel (st : St) (a : Nat → Value) (u : Nat) (p : List Bool) (c : Value) : Prop :=
  ∃ g t φ x b o t', st.at u = .bx g t φ x ∧ a u = .pointer (some ⟨b, 0, none⟩) ∧ partOff p t = some (o, t') ∧ c = .pointer (some ⟨b, o, none⟩)

def CapRel (w : World) (B : Nat → Prop) (st : St) (a : Nat → Value) : List AV → List Value → Prop
  | [], vs => vs = []
  | .pl u p :: l, vs => ∃ c vs', vs = c :: vs' ∧ PlRel st a u p c ∧ CapRel w B st a l vs'
  | .v t φ x :: l, vs => ∃ cs vs', vs = mkVal t cs :: vs' ∧ hasOwn t φ = false ∧ Rep tg w B t φ x cs [] ∧ CapRel w B st a l vs'
  | _ :: _, _ => False

/-- The place of an element of a slice that slot u owns. -/
def ElRel (w : World) (st : St) (a : Nat → Value) (u : Nat) (p : List Bool) (i : Int) (e : Ty) (x : El e) (o : Nat) (c : Value) : Prop :=
  ∃ r g φ xs b off n cc po, ownerAt st.at u = some r ∧ getP p r.t r.φ r.x = some ⟨.sl e, .own g φ, xs⟩ ∧ 0 ≤ i ∧ xs[i.toNat]? = some x ∧
    partOff p r.t = some (po, .sl e) ∧ (ownCells w (st.at u) (a u))[po]? = some (.slice (some ⟨b, off, none⟩) n cc) ∧
    c = .pointer (some ⟨b, off + i.toNat * e.size + o, none⟩)

def RepAV (w : World) (B : Nat → Prop) (st : St) (a : Nat → Value) (fps : Nat → List Nat) (av : AV) (c : Value) (fp : List Nat) : Prop := match av with
  | .v t φ x => ∃ cs, c = mkVal t cs ∧ Rep tg w B t φ x cs fp
  | .bx g t φ x => ∃ b cs T fp', c = .pointer (some ⟨b, 0, none⟩) ∧ w.heap[b]? = some (.cells cs.toArray T (0, 0)) ∧ Rep tg w B t φ x cs fp' ∧ fp = b :: fp' ∧
      ∀ q, g = some q → tg q = c
  | .bw u t x => fp = [] ∧ ∃ cs, c = mkVal t cs ∧ Rep tg w (fun b => B b ∨ b ∈ fps u) t .no x cs []
  | .al u p => fp = [] ∧ ∃ r o t', ownerAt st.at u = some r ∧ partOff p r.t = some (o, t') ∧ c = mkVal t' (((ownCells w (st.at u) (a u)).drop o).take t'.size)
  | .pl u p => fp = [] ∧ PlRel st a u p c
  | .pe u p i e x q => fp = [] ∧ ∃ o t', partOff q e = some (o, t') ∧ ElRel w st a u p i e x o c
  | .pw u p i e => fp = [] ∧ ∃ x, ElRel w st a u p i e x 0 c
  | .el u t x p i e y q => fp = [] ∧ ∃ cs, c = mkVal t cs ∧ Rep tg w (fun b => B b ∨ b ∈ fps u) t .no x cs [] ∧ ∃ o b off, partOff q e = some (o, t) ∧ ElRel w st a u p i e y o (.pointer (some ⟨b, off, none⟩)) ∧ Mem w b off cs ∧ b ∈ fps u
  | .fn f caps => fp = [] ∧ ∃ vs : List Value, c = .func (.func f) #[] vs.toArray ∧ CapRel tg w B st a caps vs
  | .tup l => ∃ vs : List Value, c = .tuple vs.toArray ∧ RepTup tg w B l vs fp
  | .nil => fp = [] ∧ c = .slice none 0 0
  | .dead => fp = []

/-- What start-up laid and nothing turns: the first g0 blocks, and what holds of them. -/
structure GP where
  g0 : Nat
  G : World → Prop
  size : ∀ w, G w → g0 ≤ w.heap.size
  keep : ∀ w w', G w → w.heap.size ≤ w'.heap.size → (∀ k, k < g0 → w'.heap[k]? = w.heap[k]?) → G w'

/-- Where a call began. -/
structure Ctx (G : GP) where
  w0 : World
  Bp : Nat → Prop
  ext : Nat → Prop
  bp : ∀ b, Bp b → b < w0.heap.size ∧ ¬ ext b
  xt : ∀ b, ext b → b < w0.heap.size
  gok : G.G w0
  xg : ∀ b, ext b → G.g0 ≤ b

def permB {G : GP} (C : Ctx G) (w : World) (fps : Nat → List Nat) (fx : List Nat) : Nat → Prop :=
  fun b => C.Bp b ∨ ((C.w0.heap.size ≤ b ∨ C.ext b) ∧ b < w.heap.size ∧ (∀ s, b ∉ fps s) ∧ b ∉ fx)

/-- What was there when the call began is as it was, but for what the call may write. -/
structure Frame {G : GP} (C : Ctx G) (w : World) : Prop where
  os : w.os = C.w0.os
  tape : w.tape = C.w0.tape
  output : w.output = C.w0.output
  size : C.w0.heap.size ≤ w.heap.size
  block : ∀ k, k < C.w0.heap.size → ¬ C.ext k → w.heap[k]? = C.w0.heap[k]?

theorem Frame.laid {G : GP} {C : Ctx G} {w : World} (h : Frame C w) : G.G w :=
  G.keep C.w0 w C.gok h.size fun k hk => h.block k (Nat.lt_of_lt_of_le hk (G.size _ C.gok)) fun hx => by have := C.xg k hx; omega

structure Inv {G : GP} (C : Ctx G) (st : St) (a : Act) (w : World) (fps : Nat → List Nat) (fx : List Nat) : Prop where
  size : a.tmps.size = st.length
  defers : a.defers = []
  rep : ∀ s, RepAV tg w (permB C w fps fx) st (fun s => a.tmps.getD s undef) fps (st.at s) (a.tmps.getD s undef) (fps s)
  refs : ∀ s u, u ∈ refsOf (st.at s) → isOwner (st.at u) = true
  nodup : ∀ s, (fps s).Nodup
  disj : ∀ s s' b, s ≠ s' → b ∈ fps s → b ∉ fps s'
  own : ∀ s b, b ∈ fps s → b < w.heap.size ∧ (C.w0.heap.size ≤ b ∨ C.ext b)
  xnodup : fx.Nodup
  xdisj : ∀ s b, b ∈ fps s → b ∉ fx
  xown : ∀ b, b ∈ fx → b < w.heap.size ∧ (C.w0.heap.size ≤ b ∨ C.ext b)
  frame : Frame C w

variable {tg}

theorem Rep.valCells {w : World} {B : Nat → Prop} : ∀ {t : Ty} {φ : Fl} {x : El t} {cs : List Value} {fp : List Nat}, Rep tg w B t φ x cs fp → (mkVal t cs).cells.toList = cs
  | .int _, _, _, _, _, h => by simp [Rep] at h; simp [h.1, mkVal, Ty.agg, Value.cells]
  | .bool, _, _, _, _, h => by simp [Rep] at h; simp [h.1, mkVal, Ty.agg, Value.cells]
  | .fnu, _, _, _, _, h => by simp [Rep] at h; simp [h.1, mkVal, Ty.agg, fnuV_cells]
  | .str, _, _, _, _, h => by simp [Rep] at h; simp [h.1, mkVal, Ty.agg, Value.cells]
  | .unit, _, _, _, _, h => by simp [Rep] at h; simp [h.1, mkVal, Ty.agg, Value.cells]
  | .ptr _, _, _, _, _, h => by obtain ⟨_, b, off, ds, rfl, _⟩ := h; simp [mkVal, Ty.agg, Value.cells]
  | .fn _ _, _, _, _, _, h => by obtain ⟨_, caps, rfl, _⟩ := h; simp [mkVal, Ty.agg, Value.cells]
  | .sl _, _, _, _, _, h => by obtain ⟨A, n, c, rfl, _⟩ := h; simp [mkVal, Ty.agg, Value.cells]
  | .prod a b, _, _, _, _, h => by simp [mkVal, Ty.agg, Value.cells]

theorem RepTup.mono {w w' : World} {B B' : Nat → Prop} (hB : ∀ b, B b → B' b) : ∀ {l : List Res} {vs : List Value} {fp : List Nat}, RepTup tg w B l vs fp →
    (∀ b, B b ∨ b ∈ fp → w'.heap[b]? = w.heap[b]?) → RepTup tg w' B' l vs fp
  | [], _, _, h, _ => h
  | r :: l, _, _, h, hw => by
    obtain ⟨cs, vs', f1, f2, rfl, rfl, h1, h2⟩ := h
    exact ⟨cs, vs', f1, f2, rfl, rfl, h1.mono hB (fun b hb => hw b (hb.imp id (by simp; exact .inl))), h2.mono hB (fun b hb => hw b (hb.imp id (by simp; exact .inr)))⟩

theorem PlRel.congr {st st' : St} {a a' : Nat → Value} {u : Nat} {p : List Bool} {c : Value} (h : PlRel st a u p c) (h1 : st'.at u = st.at u) (h2 : a' u = a u) : PlRel st' a' u p c := by
  obtain ⟨g, t, φ, x, b, o, t', e1, e2, e3, e4⟩ := h
  exact ⟨g, t, φ, x, b, o, t', h1.trans e1, h2.trans e2, e3, e4⟩

theorem CapRel.congr {w w' : World} {B B' : Nat → Prop} {st st' : St} {a a' : Nat → Value} (hB : ∀ b, B b → B' b) (hw : ∀ b, B b → w'.heap[b]? = w.heap[b]?) :
    ∀ {l : List AV} {vs : List Value}, CapRel tg w B st a l vs → (∀ u p, AV.pl u p ∈ l → st'.at u = st.at u ∧ a' u = a u) → CapRel tg w' B' st' a' l vs
  | [], _, h, _ => h
  | .pl u p :: l, vs, h, hs => by
    obtain ⟨c, vs', rfl, h1, h2⟩ := h
    obtain ⟨e1, e2⟩ := hs u p (by simp)
    exact ⟨c, vs', rfl, h1.congr e1 e2, CapRel.congr hB hw h2 fun u q hm => hs u q (List.mem_cons_of_mem _ hm)⟩
  | .v t φ x :: l, vs, h, hs => by
    obtain ⟨cs, vs', rfl, h0, h1, h2⟩ := h
    exact ⟨cs, vs', rfl, h0, h1.mono hB (fun b hb => hw b (by simpa using hb)), CapRel.congr hB hw h2 fun u q hm => hs u q (List.mem_cons_of_mem _ hm)⟩
  | .bx .. :: _, _, h, _ => h.elim
  | .bw .. :: _, _, h, _ => h.elim
  | .al .. :: _, _, h, _ => h.elim
  | .pe .. :: _, _, h, _ => h.elim
  | .pw .. :: _, _, h, _ => h.elim
  | .el .. :: _, _, h, _ => h.elim
  | .fn .. :: _, _, h, _ => h.elim
  | .tup .. :: _, _, h, _ => h.elim
  | .nil :: _, _, h, _ => h.elim
  | .dead :: _, _, h, _ => h.elim

theorem ownerAt_congr {st st' : St} {u : Nat} (h : st'.at u = st.at u) : ownerAt st'.at u = ownerAt st.at u := by simp [ownerAt, h]

theorem ownCells_congr {w w' : World} {av : AV} {c : Value} {fp : List Nat} {B : Nat → Prop} {st : St} {a : Nat → Value} {fps : Nat → List Nat} (h : RepAV tg w B st a fps av c fp)
    (hw : ∀ b, b ∈ fp → w'.heap[b]? = w.heap[b]?) : ownCells w' av c = ownCells w av c := by
  cases av <;> simp [ownCells]
  case bx g t φ x =>
    obtain ⟨b, cs, T, fp', rfl, h1, _, rfl, _⟩ := h
    simp [hw b (by simp)]

/-- The relation at a slot hangs on its own blocks, what it speaks of, and what is permanent. -/
theorem RepAV.congr {w w' : World} {B B' : Nat → Prop} {st st' : St} {a a' : Nat → Value} {fps fps' : Nat → List Nat} {av : AV} {c : Value} {fp : List Nat}
    (h : RepAV tg w B st a fps av c fp) (hB : ∀ b, B b → B' b) (hw : ∀ b, B b ∨ b ∈ fp → w'.heap[b]? = w.heap[b]?)
    (hr : ∀ u, u ∈ refsOf av → st'.at u = st.at u ∧ a' u = a u ∧ (∀ b, b ∈ fps u → b ∈ fps' u ∧ w'.heap[b]? = w.heap[b]?) ∧ ownCells w' (st.at u) (a u) = ownCells w (st.at u) (a u)) :
    RepAV tg w' B' st' a' fps' av c fp := by
  cases av with
  | v t φ x => obtain ⟨cs, rfl, h⟩ := h; exact ⟨cs, rfl, h.mono hB hw⟩
  | bx g t φ x =>
    obtain ⟨b, cs, T, fp', rfl, h1, h2, rfl, h3⟩ := h
    exact ⟨b, cs, T, fp', rfl, (hw b (.inr (by simp))).trans h1, h2.mono hB (fun b' hb => hw b' (hb.imp id (by simp; exact .inr))), rfl, h3⟩
  | bw u t x =>
    obtain ⟨rfl, cs, rfl, h⟩ := h
    obtain ⟨e1, e2, e3, e4⟩ := hr u (by simp [refsOf])
    exact ⟨rfl, cs, rfl, h.mono (fun b hb => hb.imp (hB b) fun h => (e3 b h).1) fun b hb => by
      rcases hb with (hb | hb) | hb
      · exact hw b (.inl hb)
      · exact (e3 b hb).2
      · simp at hb⟩
  | al u p =>
    obtain ⟨rfl, r, o, t', h1, h2, h3⟩ := h
    obtain ⟨e1, e2, e3, e4⟩ := hr u (by simp [refsOf])
    exact ⟨rfl, r, o, t', by rw [ownerAt_congr e1]; exact h1, h2, by rw [e1, e2, e4]; exact h3⟩
  | pl u p =>
    obtain ⟨rfl, h⟩ := h
    obtain ⟨e1, e2, _⟩ := hr u (by simp [refsOf])
    exact ⟨rfl, h.congr e1 e2⟩
  | pe u p i e x q =>
    obtain ⟨rfl, o, t', h0, r, g, φ, xs, b, off, n, cc, po, h1, h2, h3, h4, h5, h6, h7⟩ := h
    obtain ⟨e1, e2, e3, e4⟩ := hr u (by simp [refsOf])
    exact ⟨rfl, o, t', h0, r, g, φ, xs, b, off, n, cc, po, by rw [ownerAt_congr e1]; exact h1, h2, h3, h4, h5, by rw [e1, e2, e4]; exact h6, h7⟩
  | pw u p i e =>
    obtain ⟨rfl, x, r, g, φ, xs, b, off, n, cc, po, h1, h2, h3, h4, h5, h6, h7⟩ := h
    obtain ⟨e1, e2, e3, e4⟩ := hr u (by simp [refsOf])
    exact ⟨rfl, x, r, g, φ, xs, b, off, n, cc, po, by rw [ownerAt_congr e1]; exact h1, h2, h3, h4, h5, by rw [e1, e2, e4]; exact h6, h7⟩
  | el u t x p i e y q =>
    obtain ⟨rfl, cs, rfl, h, o, b0, off0, g1, ⟨r, g, φ, xs, b, off, n, cc, po, h1, h2, h3, h4, h5, h6, h7⟩, g3, g4⟩ := h
    obtain ⟨e1, e2, e3, e4⟩ := hr u (by simp [refsOf])
    refine ⟨rfl, cs, rfl, h.mono (fun b hb => hb.imp (hB b) fun h => (e3 b h).1) (fun b hb => ?_), o, b0, off0, g1, ⟨r, g, φ, xs, b, off, n, cc, po, by rw [ownerAt_congr e1]; exact h1, h2, h3, h4, h5, by rw [e1, e2, e4]; exact h6, h7⟩, g3.of_heap (e3 b0 g4).2, (e3 b0 g4).1⟩
    rcases hb with (hb | hb) | hb
    · exact hw b (.inl hb)
    · exact (e3 b hb).2
    · simp at hb
  | fn f caps =>
    obtain ⟨rfl, vs, rfl, h⟩ := h
    refine ⟨rfl, vs, rfl, h.congr hB (fun b hb => hw b (.inl hb)) fun u p hm => ?_⟩
    obtain ⟨e1, e2, _⟩ := hr u (List.mem_filterMap.2 ⟨_, hm, rfl⟩)
    exact ⟨e1, e2⟩
  | tup l => obtain ⟨vs, rfl, h⟩ := h; exact ⟨vs, rfl, h.mono hB hw⟩
  | nil => exact h
  | dead => exact h

theorem nbeq_false {a b : Nat} (h : Nat.beq a b = false) : a ≠ b := fun e => by subst e; simp at h
theorem nbeq_true {a b : Nat} (h : Nat.beq a b = true) : a = b := Nat.eq_of_beq_eq_true h
theorem refers_refs {s : Nat} {av : AV} (h : refers s av = false) : s ∉ refsOf av := by
  cases av <;> simp only [refers, refsOf] at h ⊢
  case fn f caps =>
    intro hm
    obtain ⟨c, hc, he⟩ := List.mem_filterMap.1 hm
    cases c <;> simp at he
    subst he
    have := List.any_eq_false.1 h _ hc
    simp at this
  all_goals (first | exact fun e => nbeq_false h (List.mem_singleton.1 e).symm | simp)

theorem at_set (st : St) (d s : Nat) (av : AV) : St.at (st.set d av) s = if s = d ∧ d < st.length then av else st.at s := by
  unfold St.at
  rw [List.getD_eq_getElem?_getD, List.getD_eq_getElem?_getD, List.getElem?_set]
  by_cases h : d = s
  · subst h
    by_cases hl : d < st.length <;> simp [hl]
  · simp [h, Ne.symm h]
theorem at_map (st : St) (f : AV → AV) (hf : f .dead = .dead) (s : Nat) : St.at (st.map f) s = f (st.at s) := by
  unfold St.at
  rw [List.getD_eq_getElem?_getD, List.getD_eq_getElem?_getD, List.getElem?_map]
  cases st[s]? <;> simp [hf]
theorem getD_set (a : Array Value) (d s : Nat) (v : Value) : (a.setIfInBounds d v).getD s undef = if s = d ∧ d < a.size then v else a.getD s undef := by
  rw [Array.getD_eq_getD_getElem?, Array.getD_eq_getD_getElem?, Array.getElem?_setIfInBounds]
  by_cases h : d = s
  · subst h
    by_cases hl : d < a.size <;> simp [hl]
  · simp [h, Ne.symm h]
end
end Go.Ev
/-
  Slots written, worlds grown.
-/
namespace Go.Ev
section
variable {tg : Nat → Value} {G : GP} {C : Ctx G}

theorem Frame.trans {w w' : World} (h : Frame C w) (h1 : w'.os = w.os) (h2 : w'.tape = w.tape) (h3 : w'.output = w.output) (h4 : w.heap.size ≤ w'.heap.size)
    (h5 : ∀ k, k < C.w0.heap.size → ¬ C.ext k → w'.heap[k]? = w.heap[k]?) : Frame C w' :=
  ⟨h1.trans h.os, h2.trans h.tape, h3.trans h.output, Nat.le_trans h.size h4, fun k hk hx => (h5 k hk hx).trans (h.block k hk hx)⟩

theorem Inv.perm_lt {st : St} {a : Act} {w : World} {fps : Nat → List Nat} {fx : List Nat} (h : Inv tg C st a w fps fx) {b : Nat} (hb : permB C w fps fx b) : b < w.heap.size := by
  rcases hb with hb | hb
  · have := (C.bp b hb).1; have := h.frame.size; omega
  · exact hb.2.1

/-- Only new blocks. -/
theorem Inv.grow {st : St} {a : Act} {w w' : World} {fps : Nat → List Nat} {fx : List Nat} (h : Inv tg C st a w fps fx) (hb : RowKit.Below w.heap.size w w') : Inv tg C st a w' fps fx := by
  have hB : ∀ b, permB C w fps fx b → permB C w' fps fx b := fun b hb' => hb'.imp id fun k => ⟨k.1, Nat.lt_of_lt_of_le k.2.1 hb.size, k.2.2⟩
  refine { size := h.size, defers := h.defers, rep := fun s => ?_, refs := h.refs, nodup := h.nodup, disj := h.disj, own := fun s b hm => ?_, xnodup := h.xnodup, xdisj := h.xdisj, xown := fun b hm => ?_, frame := ?_ }
  · refine (h.rep s).congr hB (fun b hb' => ?_) (fun u hu => ⟨rfl, rfl, fun b hm => ⟨hm, hb.block b (h.own u b hm).1⟩, ?_⟩)
    · rcases hb' with hb' | hb'
      · exact hb.block b (h.perm_lt hb')
      · exact hb.block b (h.own s b hb').1
    · exact ownCells_congr (h.rep u) fun b hm => hb.block b (h.own u b hm).1
  · have := h.own s b hm; exact ⟨Nat.lt_of_lt_of_le this.1 hb.size, this.2⟩
  · have := h.xown b hm; exact ⟨Nat.lt_of_lt_of_le this.1 hb.size, this.2⟩
  · exact h.frame.trans hb.os hb.tape hb.output hb.size fun k hk _ => hb.block k (Nat.lt_of_lt_of_le hk h.frame.size)

theorem refers_fp {w : World} {B : Nat → Prop} {st : St} {a : Nat → Value} {fps : Nat → List Nat} {av : AV} {c : Value} {fp : List Nat} {s : Nat}
    (h : RepAV tg w B st a fps av c fp) (hr : refers s av = true) : fp = [] := by
  cases av <;> simp [refers] at hr <;> first | exact h.1 | skip

theorem owner_refers {av : AV} (h : isOwner av = true) (s : Nat) : refers s av = false := by
  cases av <;> simp [isOwner] at h <;> rfl

theorem owner_dead : isOwner .dead = false := rfl

/-- What is detached may be dropped. -/
theorem Inv.drop {st : St} {a : Act} {w : World} {fps : Nat → List Nat} {fx : List Nat} (h : Inv tg C st a w fps fx) : Inv tg C st a w fps [] := by
  have hB : ∀ b, permB C w fps fx b → permB C w fps [] b := fun b hb => hb.imp id fun k => ⟨k.1, k.2.1, k.2.2.1, by simp⟩
  exact { h with
    rep := fun s => (h.rep s).congr hB (fun _ _ => rfl) fun u hu => ⟨rfl, rfl, fun b hm => ⟨hm, rfl⟩, rfl⟩
    xnodup := by simp
    xdisj := by simp
    xown := by simp }

/-- A value into a slot. -/
theorem Inv.put {st : St} {a : Act} {w : World} {fps : Nat → List Nat} {fx : List Nat} (h : Inv tg C st a w fps fx) {av : AV} {v : Value}
    (hv : RepAV tg w (permB C w fps fx) st (fun s => a.tmps.getD s undef) fps av v fx) (hr : ∀ u, u ∈ refsOf av → isOwner (st.at u) = true) (dst : Option Tmp) :
    ∃ fps', Inv tg C (put st dst av) (a.put dst v) w fps' [] := by
  cases dst with
  | none => exact ⟨fps, h.drop⟩
  | some d =>
    by_cases hd : d < st.length
    case neg =>
      refine ⟨fps, ?_⟩
      have e0 : st.at d = .dead := by simp [St.at, List.getElem?_eq_none (Nat.le_of_not_lt hd)]
      have e1 : Ev.put st (some d) av = st := by
        simp only [Ev.put, e0, isOwner]
        exact List.set_eq_of_length_le (Nat.le_of_not_lt hd)
      have e2 : a.put (some d) v = a := by
        simp only [Act.put]
        rw [Array.setIfInBounds, dif_neg (by rw [h.size]; exact hd)]
      rw [e1, e2]
      exact h.drop
    case pos =>
      -- the slots behind the write
      let kill := isOwner (st.at d)
      let av' : AV := if kill && refers d av then .dead else av
      let fd : List Nat := if kill && refers d av then [] else fx
      let fps' : Nat → List Nat := fun s => if s = d then fd else fps s
      have hst : ∀ s, St.at (Ev.put st (some d) av) s = if s = d then av' else (if kill && refers d (st.at s) then .dead else st.at s) := by
        intro s
        simp only [Ev.put]
        cases hk : isOwner (st.at d) with
        | true =>
          simp only [at_set, killAll]
          rw [List.length_map]
          by_cases hs : s = d
          · simp only [hs, hd, and_self, if_true, av', kill, hk, Bool.true_and]
            cases refers d av <;> simp
          · simp only [hs, false_and, if_false, kill, hk, Bool.true_and]
            rw [at_map _ _ (by simp [refers])]
            cases refers d (st.at s) <;> simp
        | false =>
          simp only [at_set]
          by_cases hs : s = d
          · simp [hs, hd, av', kill, hk]
          · simp [hs, kill, hk]
      have hlen : (Ev.put st (some d) av).length = st.length := by
        simp only [Ev.put]
        split <;> simp [killAll]
      have hav : ∀ s, (a.put (some d) v).tmps.getD s undef = if s = d then v else a.tmps.getD s undef := by
        intro s
        simp only [Act.put, getD_set]
        by_cases hs : s = d
        · simp [hs, h.size, hd]
        · simp [hs]
      -- what is spoken of stays
      have hkeep : ∀ u, isOwner (st.at u) = true → u ≠ d → St.at (Ev.put st (some d) av) u = st.at u := by
        intro u hu hne
        rw [hst, if_neg hne, owner_refers hu]
        simp
      have hB : ∀ b, permB C w fps fx b → permB C w fps' [] b := fun b hb => hb.imp id fun k => ⟨k.1, k.2.1, fun s => by
        simp only [fps', fd]
        split
        · split
          · simp
          · exact k.2.2.2
        · exact k.2.2.1 s, by simp⟩
      have hfd : ∀ b, b ∈ fd → b ∈ fx := by intro b hb; simp only [fd] at hb; split at hb; · simp at hb
                                            · exact hb
      refine ⟨fps', { size := by simp only [Act.put]; simp [hlen, h.size], defers := h.defers, rep := fun s => ?_, refs := fun s u hu => ?_, nodup := fun s => ?_, disj := fun s s' b hne h1 h2 => ?_, own := fun s b hm => ?_, xnodup := by simp, xdisj := by simp, xown := by simp, frame := h.frame }⟩
      · rw [hst, hav]
        by_cases hs : s = d
        · subst hs
          rw [if_pos rfl, if_pos rfl]
          by_cases hk : (kill && refers s av) = true
          · have e1 : av' = .dead := by simp only [av', hk, if_true]
            have e2 : fps' s = [] := by simp only [fps', fd, hk, if_true]
            rw [e1, e2]
            exact rfl
          · have e1 : av' = av := by simp only [av', hk]; rfl
            have e2 : fps' s = fx := by simp only [fps', fd, hk]; rfl
            rw [e1, e2]
            have hk' : ∀ u, u ∈ refsOf av → u ≠ s := by
              rintro u hu rfl
              have := hr u hu
              simp only [kill, this, Bool.true_and] at hk
              exact refers_refs (by simpa using hk) hu
            exact hv.congr hB (fun _ _ => rfl) fun u hu => ⟨hkeep u (hr u hu) (hk' u hu), by rw [hav, if_neg (hk' u hu)], fun b hm => ⟨by simp only [fps', if_neg (hk' u hu)]; exact hm, rfl⟩, rfl⟩
        · have e2 : fps' s = fps s := by simp only [fps', if_neg hs]
          rw [if_neg hs, if_neg hs, e2]
          by_cases hk : (kill && refers d (st.at s)) = true
          · rw [if_pos hk]
            simp only [Bool.and_eq_true] at hk
            exact refers_fp (h.rep s) hk.2
          · rw [if_neg hk]
            have hk' : ∀ u, u ∈ refsOf (st.at s) → u ≠ d := by
              rintro u hu rfl
              have := h.refs s u hu
              simp only [kill, this, Bool.true_and] at hk
              exact refers_refs (by simpa using hk) hu
            exact (h.rep s).congr hB (fun _ _ => rfl) fun u hu => ⟨hkeep u (h.refs s u hu) (hk' u hu), by rw [hav, if_neg (hk' u hu)], fun b hm => ⟨by simp only [fps', if_neg (hk' u hu)]; exact hm, rfl⟩, rfl⟩
      · rw [hst] at hu
        by_cases hs : s = d
        · rw [if_pos hs] at hu
          simp only [av'] at hu
          split at hu
          · simp [refsOf] at hu
          · rename_i hk
            have hne : u ≠ d := by
              rintro rfl
              have := hr u hu
              simp only [kill, this, Bool.true_and] at hk
              exact refers_refs (by simpa using hk) hu
            rw [hkeep u (hr u hu) hne]
            exact hr u hu
        · rw [if_neg hs] at hu
          split at hu
          · simp [refsOf] at hu
          · rename_i hk
            have hne : u ≠ d := by
              rintro rfl
              have := h.refs s u hu
              simp only [kill, this, Bool.true_and] at hk
              exact refers_refs (by simpa using hk) hu
            rw [hkeep u (h.refs s u hu) hne]
            exact h.refs s u hu
      · simp only [fps', fd]
        split
        · split
          · simp
          · exact h.xnodup
        · exact h.nodup s
      · simp only [fps'] at h1 h2
        by_cases hs : s = d
        · by_cases hs' : s' = d
          · exact hne (hs.trans hs'.symm)
          · rw [if_pos hs] at h1
            rw [if_neg hs'] at h2
            exact h.xdisj s' b h2 (hfd b h1)
        · rw [if_neg hs] at h1
          by_cases hs' : s' = d
          · rw [if_pos hs'] at h2
            exact h.xdisj s b h1 (hfd b h2)
          · rw [if_neg hs'] at h2
            exact h.disj s s' b hne h1 h2
      · simp only [fps'] at hm
        by_cases hs : s = d
        · rw [if_pos hs] at hm
          exact h.xown b (hfd b hm)
        · rw [if_neg hs] at hm
          exact h.own s b hm
end
end Go.Ev
/-
  What an owner holds turns: the others' relations.
-/
namespace Go.Ev
section
variable {tg : Nat → Value} {G : GP} {C : Ctx G}

/-- What an owner holds, or what is detached, turns; the blocks that turn are theirs. -/
theorem Inv.upd {st : St} {a : Act} {w w' : World} {fps : Nat → List Nat} {fx fpu fx' : List Nat} (h : Inv tg C st a w fps fx) {u : Nat} {nav : AV} {f : AV → AV}
    (hul : u < st.length)
    (hrn : refsOf nav = [])
    (hf0 : f .dead = .dead)
    (hf1 : ∀ av, isOwner av = true → f av = av)
    (hf2 : ∀ s v, v ∈ refsOf (f (st.at s)) → v ∈ refsOf (st.at s))
    (hf3 : ∀ s, u ∉ refsOf (st.at s) → f (st.at s) = st.at s)
    (hsz : w'.heap.size = w.heap.size)
    (hfr : Frame C w')
    (hwb : ∀ b, b ∉ fps u → b ∉ fx → w'.heap[b]? = w.heap[b]?)
    (hsub : ∀ b, b ∈ fpu ∨ b ∈ fx' → b ∈ fps u ∨ b ∈ fx)
    (hn1 : fpu.Nodup) (hn2 : fx'.Nodup) (hn3 : ∀ b, b ∈ fpu → b ∉ fx')
    (hnav : RepAV tg w' (permB C w' (fun s => if s = u then fpu else fps s) fx') ((st.map f).set u nav) (fun s => a.tmps.getD s undef) (fun s => if s = u then fpu else fps s) nav (a.tmps.getD u undef) fpu)
    (hf4 : ∀ s, s ≠ u → u ∈ refsOf (st.at s) → (isOwner nav = false → u ∉ refsOf (f (st.at s))) ∧
      RepAV tg w' (permB C w' (fun s => if s = u then fpu else fps s) fx') ((st.map f).set u nav) (fun s => a.tmps.getD s undef) (fun s => if s = u then fpu else fps s) (f (st.at s)) (a.tmps.getD s undef) (fps s)) :
    Inv tg C ((st.map f).set u nav) a w' (fun s => if s = u then fpu else fps s) fx' := by
  have hst : ∀ s, St.at ((st.map f).set u nav) s = if s = u then nav else f (st.at s) := by
    intro s
    rw [at_set, List.length_map]
    by_cases hs : s = u
    · simp [hs, hul]
    · simp only [hs, false_and, if_false]
      exact at_map st f hf0 s
  have hkeep : ∀ v, isOwner (st.at v) = true → v ≠ u → St.at ((st.map f).set u nav) v = st.at v := by
    intro v hv hne
    rw [hst, if_neg hne, hf1 _ hv]
  have hB : ∀ b, permB C w fps fx b → permB C w' (fun s => if s = u then fpu else fps s) fx' b := fun b hb => hb.imp id fun k => ⟨k.1, by rw [hsz]; exact k.2.1, fun s => by
    show b ∉ (if s = u then fpu else fps s)
    split
    · intro hm
      rcases hsub b (.inl hm) with h1 | h1
      · exact k.2.2.1 u h1
      · exact k.2.2.2 h1
    · exact k.2.2.1 s, fun hm => by
      rcases hsub b (.inr hm) with h1 | h1
      · exact k.2.2.1 u h1
      · exact k.2.2.2 h1⟩
  have hperm : ∀ b, permB C w fps fx b → w'.heap[b]? = w.heap[b]? := by
    intro b hb
    refine hwb b ?_ ?_
    · intro hm
      rcases hb with hb | hb
      · have h1 := h.own u b hm
        rcases h1.2 with h2 | h2
        · have := (C.bp b hb).1; omega
        · exact (C.bp b hb).2 h2
      · exact hb.2.2.1 u hm
    · intro hm
      rcases hb with hb | hb
      · have h1 := h.xown b hm
        rcases h1.2 with h2 | h2
        · have := (C.bp b hb).1; omega
        · exact (C.bp b hb).2 h2
      · exact hb.2.2.2 hm
  have hoth : ∀ s b, s ≠ u → b ∈ fps s → w'.heap[b]? = w.heap[b]? := fun s b hs hm => hwb b (h.disj s u b hs hm) (h.xdisj s b hm)
  refine { size := by simp [h.size], defers := h.defers, rep := fun s => ?_, refs := fun s v hv => ?_, nodup := fun s => ?_, disj := fun s s' b hne h1 h2 => ?_, own := fun s b hm => ?_, xnodup := hn2, xdisj := fun s b hm => ?_, xown := fun b hm => ?_, frame := hfr }
  · rw [hst]
    by_cases hs : s = u
    · subst hs
      rw [if_pos rfl, if_pos rfl]
      exact hnav
    · rw [if_neg hs, if_neg hs]
      by_cases hr : u ∈ refsOf (st.at s)
      · exact (hf4 s hs hr).2
      · rw [hf3 s hr]
        refine (h.rep s).congr hB (fun b hb => hb.elim (hperm b) (hoth s b hs)) fun v hv => ?_
        have hne : v ≠ u := fun e => hr (e ▸ hv)
        refine ⟨hkeep v (h.refs s v hv) hne, rfl, fun b hm => ⟨?_, hoth v b hne hm⟩, ownCells_congr (h.rep v) fun b hm => hoth v b hne hm⟩
        show b ∈ (if v = u then fpu else fps v)
        rw [if_neg hne]
        exact hm
  · rw [hst] at hv
    by_cases hs : s = u
    · rw [if_pos hs, hrn] at hv
      simp at hv
    · rw [if_neg hs] at hv
      have hv' := hf2 s v hv
      by_cases hvu : v = u
      · subst hvu
        rw [hst, if_pos rfl]
        cases hn : isOwner nav with
        | true => rfl
        | false => exact absurd hv ((hf4 s hs hv').1 hn)
      · rw [hkeep v (h.refs s v hv') hvu]
        exact h.refs s v hv'
  · show (if s = u then fpu else fps s).Nodup
    split
    · exact hn1
    · exact h.nodup s
  · show False
    replace h1 : b ∈ (if s = u then fpu else fps s) := h1
    replace h2 : b ∈ (if s' = u then fpu else fps s') := h2
    by_cases hs : s = u
    · rw [if_pos hs] at h1
      by_cases hs' : s' = u
      · exact hne (hs.trans hs'.symm)
      · rw [if_neg hs'] at h2
        rcases hsub b (.inl h1) with k | k
        · exact h.disj s' u b hs' h2 k
        · exact h.xdisj s' b h2 k
    · rw [if_neg hs] at h1
      by_cases hs' : s' = u
      · rw [if_pos hs'] at h2
        rcases hsub b (.inl h2) with k | k
        · exact h.disj s u b hs h1 k
        · exact h.xdisj s b h1 k
      · rw [if_neg hs'] at h2
        exact h.disj s s' b hne h1 h2
  · replace hm : b ∈ (if s = u then fpu else fps s) := hm
    rw [hsz]
    by_cases hs : s = u
    · rw [if_pos hs] at hm
      rcases hsub b (.inl hm) with k | k
      · exact h.own u b k
      · exact h.xown b k
    · rw [if_neg hs] at hm
      exact h.own s b hm
  · replace hm : b ∈ (if s = u then fpu else fps s) := hm
    by_cases hs : s = u
    · rw [if_pos hs] at hm
      exact hn3 b hm
    · rw [if_neg hs] at hm
      intro hx
      rcases hsub b (.inr hx) with k | k
      · exact h.disj s u b hs hm k
      · exact h.xdisj s b hm k
  · rw [hsz]
    rcases hsub b (.inr hm) with k | k
    · exact h.own u b k
    · exact h.xown b k

theorem getP_goneP : ∀ {p q : List Bool} {t : Ty} {φ : Fl} {x : El t}, overlap p q = false → getP q t (goneP p t φ) x = getP q t φ x
  | [], q, t, φ, x, h => by simp [overlap] at h
  | a :: p, [], t, φ, x, h => by simp [overlap] at h
  | true :: p, true :: q, .prod a b, φ, x, h => getP_goneP (t := a) (by simpa [overlap] using h)
  | false :: p, false :: q, .prod a b, φ, x, h => getP_goneP (t := b) (by simpa [overlap] using h)
  | true :: p, false :: q, .prod a b, φ, x, h => rfl
  | false :: p, true :: q, .prod a b, φ, x, h => rfl
  | c :: p, d :: q, .int _, φ, x, h => by cases d <;> simp [getP]
  | c :: p, d :: q, .bool, φ, x, h => by cases d <;> simp [getP]
  | c :: p, d :: q, .fnu, φ, x, h => by cases d <;> simp [getP]
  | c :: p, d :: q, .str, φ, x, h => by cases d <;> simp [getP]
  | c :: p, d :: q, .sl _, φ, x, h => by cases d <;> simp [getP]
  | c :: p, d :: q, .unit, φ, x, h => by cases d <;> simp [getP]
  | c :: p, d :: q, .ptr _, φ, x, h => by cases d <;> simp [getP]
  | c :: p, d :: q, .fn _ _, φ, x, h => by cases d <;> simp [getP]

theorem castTo_self {t : Ty} {x y : El t} (h : castTo t x = some y) : y = x := by
  obtain ⟨e, rfl⟩ := castTo_some h
  rfl

theorem setP_ty : ∀ {p : List Bool} {t : Ty} {φ : Fl} {x : El t} {r n : Res}, setP p t φ x r = some n → n.t = t
  | [], t, φ, x, r, n, h => by
    simp only [setP] at h
    split at h
    · simp at h; subst h; rfl
    · cases h
  | true :: p, .prod a b, φ, x, r, n, h => by
    simp only [setP] at h
    split at h
    · split at h
      · simp at h; subst h; rfl
      · cases h
    · cases h
  | false :: p, .prod a b, φ, x, r, n, h => by
    simp only [setP] at h
    split at h
    · split at h
      · simp at h; subst h; rfl
      · cases h
    · cases h
  | c :: p, .int _, _, _, _, _, h => by cases c <;> simp [setP] at h
  | c :: p, .bool, _, _, _, _, h => by cases c <;> simp [setP] at h
  | c :: p, .fnu, _, _, _, _, h => by cases c <;> simp [setP] at h
  | c :: p, .str, _, _, _, _, h => by cases c <;> simp [setP] at h
  | c :: p, .sl _, _, _, _, _, h => by cases c <;> simp [setP] at h
  | c :: p, .unit, _, _, _, _, h => by cases c <;> simp [setP] at h
  | c :: p, .ptr _, _, _, _, _, h => by cases c <;> simp [setP] at h
  | c :: p, .fn _ _, _, _, _, _, h => by cases c <;> simp [setP] at h

/-- Beside the part that is set nothing turns. -/
theorem getP_setP : ∀ {p q : List Bool} {t : Ty} {φ : Fl} {x : El t} {r n : Res}, overlap p q = false → setP p t φ x r = some n → getP q n.t n.φ n.x = getP q t φ x
  | [], q, t, φ, x, r, n, h, _ => by simp [overlap] at h
  | a :: p, [], t, φ, x, r, n, h, _ => by simp [overlap] at h
  | true :: p, d :: q, .prod a b, φ, x, r, n, h, hs => by
    simp only [setP] at hs
    split at hs
    · rename_i z hz
      split at hs
      · rename_i y hy
        simp at hs
        subst hs
        cases d with
        | true =>
          have := getP_setP (q := q) (by simpa [overlap] using h) hz
          obtain ⟨zt, zφ, zx⟩ := z
          have et : zt = _ := setP_ty hz
          subst et
          obtain rfl := castTo_self hy
          exact this
        | false => rfl
      · cases hs
    · cases hs
  | false :: p, d :: q, .prod a b, φ, x, r, n, h, hs => by
    simp only [setP] at hs
    split at hs
    · rename_i z hz
      split at hs
      · rename_i y hy
        simp at hs
        subst hs
        cases d with
        | false =>
          have := getP_setP (q := q) (by simpa [overlap] using h) hz
          obtain ⟨zt, zφ, zx⟩ := z
          have et : zt = _ := setP_ty hz
          subst et
          obtain rfl := castTo_self hy
          exact this
        | true => rfl
      · cases hs
    · cases hs
  | c :: p, _ :: _, .int _, _, _, _, _, _, h => by cases c <;> simp [setP] at h
  | c :: p, _ :: _, .bool, _, _, _, _, _, h => by cases c <;> simp [setP] at h
  | c :: p, _ :: _, .fnu, _, _, _, _, _, h => by cases c <;> simp [setP] at h
  | c :: p, _ :: _, .str, _, _, _, _, _, h => by cases c <;> simp [setP] at h
  | c :: p, _ :: _, .sl _, _, _, _, _, _, h => by cases c <;> simp [setP] at h
  | c :: p, _ :: _, .unit, _, _, _, _, _, h => by cases c <;> simp [setP] at h
  | c :: p, _ :: _, .ptr _, _, _, _, _, _, h => by cases c <;> simp [setP] at h
  | c :: p, _ :: _, .fn _ _, _, _, _, _, _, h => by cases c <;> simp [setP] at h

theorem setP_part_ty : ∀ {p : List Bool} {t : Ty} {φ φ' : Fl} {x x' : El t} {r n z : Res}, setP p t φ x r = some n → getP p t φ' x' = some z → r.t = z.t
  | [], t, φ, φ', x, x', r, n, z, h, hz => by
    simp only [setP] at h
    simp only [getP, Option.some.injEq] at hz
    subst hz
    split at h
    · rename_i y hy; exact (castTo_some hy).1
    · cases h
  | true :: p, .prod a b, φ, φ', x, x', r, n, z, h, hz => by
    simp only [setP] at h
    split at h
    · rename_i z1 hz1; exact setP_part_ty hz1 hz
    · cases h
  | false :: p, .prod a b, φ, φ', x, x', r, n, z, h, hz => by
    simp only [setP] at h
    split at h
    · rename_i z1 hz1; exact setP_part_ty hz1 hz
    · cases h
  | c :: p, .int _, _, _, _, _, _, _, _, h, _ => by cases c <;> simp [setP] at h
  | c :: p, .bool, _, _, _, _, _, _, _, h, _ => by cases c <;> simp [setP] at h
  | c :: p, .fnu, _, _, _, _, _, _, _, h, _ => by cases c <;> simp [setP] at h
  | c :: p, .str, _, _, _, _, _, _, _, h, _ => by cases c <;> simp [setP] at h
  | c :: p, .sl _, _, _, _, _, _, _, _, h, _ => by cases c <;> simp [setP] at h
  | c :: p, .unit, _, _, _, _, _, _, _, h, _ => by cases c <;> simp [setP] at h
  | c :: p, .ptr _, _, _, _, _, _, _, _, h, _ => by cases c <;> simp [setP] at h
  | c :: p, .fn _ _, _, _, _, _, _, _, _, h, _ => by cases c <;> simp [setP] at h

/-- Flags that own nothing and miss nothing. -/
def bareFl : Ty → Fl → Bool
  | .sl _, .own _ _ => false
  | .sl _, .gone => false
  | .prod a b, φ => bareFl a φ.l && bareFl b φ.r
  | _, _ => true
theorem bareFl_no : ∀ (t : Ty), bareFl t .no = true
  | .int _ => rfl
  | .bool => rfl
  | .fnu => rfl
  | .str => rfl
  | .unit => rfl
  | .ptr _ => rfl
  | .fn _ _ => rfl
  | .sl _ => rfl
  | .prod a b => by simp only [bareFl, Fl.l, Fl.r, bareFl_no a, bareFl_no b]; rfl
theorem setP_bare : ∀ {p : List Bool} {t : Ty} {φ : Fl} {x : El t} {r n : Res}, bareFl t φ = true → bareFl r.t r.φ = true → setP p t φ x r = some n → bareFl t n.φ = true
  | [], t, φ, x, r, n, h1, h2, h => by
    simp only [setP] at h
    split at h
    · rename_i y hy
      simp at h; subst h
      obtain ⟨e, _⟩ := castTo_some hy
      show bareFl t r.φ = true
      rw [← e]; exact h2
    · cases h
  | true :: p, .prod a b, φ, x, r, n, h1, h2, h => by
    simp only [bareFl, Bool.and_eq_true] at h1
    simp only [setP] at h
    split at h
    · rename_i z hz
      split at h
      · simp at h; subst h
        simp only [bareFl, Fl.l, Fl.r, Bool.and_eq_true]
        exact ⟨setP_bare h1.1 h2 hz, h1.2⟩
      · cases h
    · cases h
  | false :: p, .prod a b, φ, x, r, n, h1, h2, h => by
    simp only [bareFl, Bool.and_eq_true] at h1
    simp only [setP] at h
    split at h
    · rename_i z hz
      split at h
      · simp at h; subst h
        simp only [bareFl, Fl.l, Fl.r, Bool.and_eq_true]
        exact ⟨h1.1, setP_bare h1.2 h2 hz⟩
      · cases h
    · cases h
  | c :: p, .int _, _, _, _, _, _, _, h => by cases c <;> simp [setP] at h
  | c :: p, .bool, _, _, _, _, _, _, h => by cases c <;> simp [setP] at h
  | c :: p, .fnu, _, _, _, _, _, _, h => by cases c <;> simp [setP] at h
  | c :: p, .str, _, _, _, _, _, _, h => by cases c <;> simp [setP] at h
  | c :: p, .sl _, _, _, _, _, _, _, h => by cases c <;> simp [setP] at h
  | c :: p, .unit, _, _, _, _, _, _, h => by cases c <;> simp [setP] at h
  | c :: p, .ptr _, _, _, _, _, _, _, h => by cases c <;> simp [setP] at h
  | c :: p, .fn _ _, _, _, _, _, _, _, h => by cases c <;> simp [setP] at h
theorem bareFl_facts : ∀ {t : Ty} {φ : Fl}, bareFl t φ = true → hasOwn t φ = false ∧ clean t φ = true
  | .int _, _, _ => ⟨rfl, rfl⟩
  | .bool, _, _ => ⟨rfl, rfl⟩
  | .fnu, _, _ => ⟨rfl, rfl⟩
  | .str, _, _ => ⟨rfl, rfl⟩
  | .unit, _, _ => ⟨rfl, rfl⟩
  | .ptr _, _, _ => ⟨rfl, rfl⟩
  | .fn _ _, _, _ => ⟨rfl, rfl⟩
  | .sl e, φ, h => by cases φ <;> simp [bareFl] at h <;> exact ⟨rfl, rfl⟩
  | .prod a b, φ, h => by
    simp only [bareFl, Bool.and_eq_true] at h
    obtain ⟨h1, h2⟩ := bareFl_facts h.1
    obtain ⟨h3, h4⟩ := bareFl_facts h.2
    simp [hasOwn, clean, h1, h2, h3, h4]
theorem Rep.bare_fl {w : World} {B : Nat → Prop} {t : Ty} {φ : Fl} {x : El t} {cs : List Value} {fp : List Nat} (h : Rep tg w B t φ x cs fp) (hb : bareFl t φ = true) : Rep tg w B t .no x cs [] :=
  h.bare (bareFl_facts hb).1 (bareFl_facts hb).2
end
end Go.Ev
/-
  Taking what is owned.
-/
namespace Go.Ev
section
variable {tg : Nat → Value} {G : GP} {C : Ctx G}

/-- What an owner's content is made of. -/
theorem owner_rep {w : World} {B : Nat → Prop} {st : St} {a : Nat → Value} {fps : Nat → List Nat} {u : Nat} {r : Res} (h : RepAV tg w B st a fps (st.at u) (a u) (fps u)) (ho : ownerAt st.at u = some r) :
    ∃ fpc, Rep tg w B r.t r.φ r.x (ownCells w (st.at u) (a u)) fpc ∧
      ((st.at u = .v r.t r.φ r.x ∧ fps u = fpc ∧ a u = mkVal r.t (ownCells w (st.at u) (a u))) ∨
        ∃ g b T, st.at u = .bx g r.t r.φ r.x ∧ fps u = b :: fpc ∧ a u = .pointer (some ⟨b, 0, none⟩) ∧ w.heap[b]? = some (.cells (ownCells w (st.at u) (a u)).toArray T (0, 0)) ∧ ∀ q, g = some q → tg q = a u) := by
  unfold ownerAt at ho
  split at ho
  · rename_i t φ x e
    simp at ho
    subst ho
    rw [e] at h ⊢
    obtain ⟨cs, hc, hr⟩ := h
    have he : ownCells w (.v t φ x) (a u) = cs := by rw [hc]; exact hr.valCells
    rw [he]
    exact ⟨_, hr, .inl ⟨rfl, rfl, hc⟩⟩
  · rename_i g t φ x e
    simp at ho
    subst ho
    rw [e] at h ⊢
    obtain ⟨b, cs, T, fp', hc, h1, h2, h3, h4⟩ := h
    have he : ownCells w (.bx g t φ x) (a u) = cs := by rw [hc]; simp [ownCells, h1]
    rw [he]
    exact ⟨fp', h2, .inr ⟨g, b, T, rfl, h3, hc, h1, h4⟩⟩
  · cases ho

theorem ownerAt_lt {st : St} {u : Nat} {r : Res} (ho : ownerAt st.at u = some r) : u < st.length := by
  rcases Nat.lt_or_ge u st.length with h | h
  · exact h
  · have : st.at u = .dead := by simp [St.at, List.getElem?_eq_none h]
    simp [ownerAt, this] at ho

theorem PlRel.turn {st st' : St} {a : Nat → Value} {u v : Nat} {p : List Bool} {c : Value} (h : PlRel st a v p c) (hv : v ≠ u → st'.at v = st.at v)
    (hb : ∀ g t φ x, st.at u = .bx g t φ x → ∃ φ' x', st'.at u = .bx g t φ' x') : PlRel st' a v p c := by
  obtain ⟨g, t, φ, x, b, o, t', e1, e2, e3, e4⟩ := h
  by_cases hvu : v = u
  · subst hvu
    obtain ⟨φ', x', e⟩ := hb g t φ x e1
    exact ⟨g, t, φ', x', b, o, t', e, e2, e3, e4⟩
  · exact ⟨g, t, φ, x, b, o, t', (hv hvu).trans e1, e2, e3, e4⟩

theorem CapRel.turn {w w' : World} {B B' : Nat → Prop} {st st' : St} {a : Nat → Value} {u : Nat} (hB : ∀ b, B b → B' b) (hw : ∀ b, B b → w'.heap[b]? = w.heap[b]?)
    (hb : ∀ g t φ x, st.at u = .bx g t φ x → ∃ φ' x', st'.at u = .bx g t φ' x') :
    ∀ {l : List AV} {vs : List Value}, CapRel tg w B st a l vs → (∀ v p, AV.pl v p ∈ l → v ≠ u → st'.at v = st.at v) → CapRel tg w' B' st' a l vs
  | [], _, h, _ => h
  | .pl v p :: l, vs, h, hs => by
    obtain ⟨c, vs', rfl, h1, h2⟩ := h
    exact ⟨c, vs', rfl, h1.turn (hs v p (by simp)) hb, CapRel.turn hB hw hb h2 fun u q hm => hs u q (List.mem_cons_of_mem _ hm)⟩
  | .v t φ x :: l, vs, h, hs => by
    obtain ⟨cs, vs', rfl, h0, h1, h2⟩ := h
    exact ⟨cs, vs', rfl, h0, h1.mono hB (fun b hb => hw b (by simpa using hb)), CapRel.turn hB hw hb h2 fun u q hm => hs u q (List.mem_cons_of_mem _ hm)⟩
  | .bx .. :: _, _, h, _ => h.elim
  | .bw .. :: _, _, h, _ => h.elim
  | .al .. :: _, _, h, _ => h.elim
  | .pe .. :: _, _, h, _ => h.elim
  | .pw .. :: _, _, h, _ => h.elim
  | .el .. :: _, _, h, _ => h.elim
  | .fn .. :: _, _, h, _ => h.elim
  | .tup .. :: _, _, h, _ => h.elim
  | .nil :: _, _, h, _ => h.elim
  | .dead :: _, _, h, _ => h.elim

/-- A form that leads into what a slot owns. -/
def isLent : AV → Bool
  | .bw _ _ _ | .el _ _ _ _ _ _ _ _ => true
  | _ => false

/-- A form that speaks of the slot u, whose content turned beside what the form speaks of. -/
theorem RepAV.turn {w w' : World} {B B' : Nat → Prop} {st st' : St} {a : Nat → Value} {fps fps' : Nat → List Nat} {av : AV} {c : Value} {fp : List Nat} {u : Nat}
    (h : RepAV tg w B st a fps av c fp) (hB : ∀ b, B b → B' b) (hw : ∀ b, B b → w'.heap[b]? = w.heap[b]?) (hru : u ∈ refsOf av)
    (hne : ∀ v, v ∈ refsOf av → v ≠ u → st'.at v = st.at v)
    (hb : ∀ g t φ x, st.at u = .bx g t φ x → ∃ φ' x', st'.at u = .bx g t φ' x')
    (ho : ∀ r, ownerAt st.at u = some r → ∃ r', ownerAt st'.at u = some r' ∧ r'.t = r.t)
    (hbw : isLent av = false)
    (hal : ∀ q r o t', av = .al u q → ownerAt st.at u = some r → partOff q r.t = some (o, t') →
      ((ownCells w' (st'.at u) (a u)).drop o).take t'.size = ((ownCells w (st.at u) (a u)).drop o).take t'.size)
    (hpe : ∀ q i e, (∃ x q', av = .pe u q i e x q') ∨ av = .pw u q i e → ∀ r o v, ownerAt st.at u = some r → partOff q r.t = some (o, .sl e) →
      (∀ z, getP q r.t r.φ r.x = some z → ∃ r', ownerAt st'.at u = some r' ∧ r'.t = r.t ∧ getP q r'.t r'.φ r'.x = some z) ∧
      ((ownCells w (st.at u) (a u))[o]? = some v → (ownCells w' (st'.at u) (a u))[o]? = some v)) :
    RepAV tg w' B' st' a fps' av c fp := by
  cases av with
  | v t φ x => simp [refsOf] at hru
  | bx g t φ x => simp [refsOf] at hru
  | bw v t x =>
    simp only [refsOf, List.mem_singleton] at hru
    cases hbw
  | al v p =>
    simp only [refsOf, List.mem_singleton] at hru
    subst hru
    obtain ⟨rfl, r, o, t', h1, h2, h3⟩ := h
    obtain ⟨r', k1, k2⟩ := ho r h1
    exact ⟨rfl, r', o, t', k1, by rw [k2]; exact h2, by rw [hal p r o t' rfl h1 h2]; exact h3⟩
  | pl v p =>
    obtain ⟨rfl, h⟩ := h
    exact ⟨rfl, h.turn (hne v (by simp [refsOf])) hb⟩
  | pe v p i e x q =>
    simp only [refsOf, List.mem_singleton] at hru
    subst hru
    obtain ⟨rfl, o, t', h0, r, g, φ, xs, b, off, n, cc, po, h1, h2, h3, h4, h5, h6, h7⟩ := h
    obtain ⟨k1, k2⟩ := hpe p i e (.inl ⟨x, q, rfl⟩) r po _ h1 h5
    obtain ⟨r', m1, m2, m3⟩ := k1 _ h2
    exact ⟨rfl, o, t', h0, r', g, φ, xs, b, off, n, cc, po, m1, m3, h3, h4, by rw [m2]; exact h5, k2 h6, h7⟩
  | pw v p i e =>
    simp only [refsOf, List.mem_singleton] at hru
    subst hru
    obtain ⟨rfl, x, r, g, φ, xs, b, off, n, cc, po, h1, h2, h3, h4, h5, h6, h7⟩ := h
    obtain ⟨k1, k2⟩ := hpe p i e (.inr rfl) r po _ h1 h5
    obtain ⟨r', m1, m2, m3⟩ := k1 _ h2
    exact ⟨rfl, x, r', g, φ, xs, b, off, n, cc, po, m1, m3, h3, h4, by rw [m2]; exact h5, k2 h6, h7⟩
  | el v t x p i e y q => cases hbw
  | fn f caps =>
    obtain ⟨rfl, vs, rfl, h⟩ := h
    exact ⟨rfl, vs, rfl, h.turn hB hw hb fun v p hm => hne v (List.mem_filterMap.2 ⟨_, hm, rfl⟩)⟩
  | tup l => simp [refsOf] at hru
  | nil => simp [refsOf] at hru
  | dead => simp [refsOf] at hru

theorem killVal_owner {s : Nat} {p : List Bool} {av : AV} (h : isOwner av = true) : killVal s p av = av := by cases av <;> simp [isOwner] at h <;> rfl
theorem cond_or {α : Type} (b : Bool) (x y : α) : cond b x y = y ∨ cond b x y = x := by cases b <;> simp
theorem killVal_or (s : Nat) (p : List Bool) (av : AV) : killVal s p av = av ∨ killVal s p av = .dead := by
  cases av <;> first | exact .inl rfl | exact (cond_or _ _ _)
theorem killVal_refs {s : Nat} {p : List Bool} {av : AV} {v : Nat} (h : v ∈ refsOf (killVal s p av)) : v ∈ refsOf av := by
  rcases killVal_or s p av with e | e <;> rw [e] at h
  · exact h
  · simp [refsOf] at h
theorem killVal_other {s : Nat} {p : List Bool} {av : AV} (h : s ∉ refsOf av) : killVal s p av = av := by
  have k : ∀ u, u ∈ refsOf av → Nat.beq u s = false := fun u hu => by
    cases e : Nat.beq u s with
    | false => rfl
    | true => exact absurd (nbeq_true e ▸ hu) h
  cases av <;> simp only [killVal] <;> rw [k _ (by simp [refsOf])] <;> rfl
theorem notLent {s : Nat} {p : List Bool} {av : AV} (h : s ∈ refsOf av) (hk : killVal s p av = av) : isLent av = false := by
  cases av <;> first | rfl | (simp only [refsOf, List.mem_singleton] at h; subst h; simp [killVal] at hk)
theorem killVal_bw {s : Nat} {p : List Bool} {t : Ty} {x : El t} : killVal s p (.bw s t x) = .dead := by simp [killVal]
theorem killVal_al {s : Nat} {p q : List Bool} : killVal s p (.al s q) = if overlap p q then .dead else .al s q := by
  cases h : overlap p q <;> simp [killVal, h]
theorem killVal_pe {s : Nat} {p q : List Bool} {i : Int} {e : Ty} {x : El e} {r : List Bool} : killVal s p (.pe s q i e x r) = if overlap p q then .dead else .pe s q i e x r := by
  cases h : overlap p q <;> simp [killVal, h]
theorem killVal_pw {s : Nat} {p q : List Bool} {i : Int} {e : Ty} : killVal s p (.pw s q i e) = if overlap p q then .dead else .pw s q i e := by
  cases h : overlap p q <;> simp [killVal, h]

theorem hasOwn_part : ∀ {p : List Bool} {t : Ty} {φ : Fl} {x : El t} {z : Res}, getP p t φ x = some z → hasOwn z.t z.φ = true → hasOwn t φ = true
  | [], t, φ, x, z, h, hz => by simp [getP] at h; subst h; exact hz
  | true :: p, .prod a b, φ, x, z, h, hz => by simp only [hasOwn, Bool.or_eq_true]; exact .inl (hasOwn_part (t := a) h hz)
  | false :: p, .prod a b, φ, x, z, h, hz => by simp only [hasOwn, Bool.or_eq_true]; exact .inr (hasOwn_part (t := b) h hz)
  | c :: p, .int _, _, _, _, h, _ => by cases c <;> simp [getP] at h
  | c :: p, .bool, _, _, _, h, _ => by cases c <;> simp [getP] at h
  | c :: p, .fnu, _, _, _, h, _ => by cases c <;> simp [getP] at h
  | c :: p, .str, _, _, _, h, _ => by cases c <;> simp [getP] at h
  | c :: p, .sl _, _, _, _, h, _ => by cases c <;> simp [getP] at h
  | c :: p, .unit, _, _, _, h, _ => by cases c <;> simp [getP] at h
  | c :: p, .ptr _, _, _, _, h, _ => by cases c <;> simp [getP] at h
  | c :: p, .fn _ _, _, _, _, h, _ => by cases c <;> simp [getP] at h

theorem refs_fp {w : World} {B : Nat → Prop} {st : St} {a : Nat → Value} {fps : Nat → List Nat} {av : AV} {c : Value} {fp : List Nat} {s : Nat}
    (h : RepAV tg w B st a fps av c fp) (hr : s ∈ refsOf av) : fp = [] := by
  cases av <;> simp [refsOf] at hr <;> exact h.1
theorem refers_of_refs {s : Nat} {av : AV} (h : s ∈ refsOf av) : refers s av = true := by
  cases hr : refers s av with
  | true => rfl
  | false => exact absurd h (refers_refs hr)
theorem refs_of_refers {s : Nat} {av : AV} (h : refers s av = true) : s ∈ refsOf av := by
  cases av <;> simp only [refers, refsOf] at h ⊢
  case fn f caps =>
    obtain ⟨c, hc, he⟩ := List.any_eq_true.1 h
    cases c <;> simp at he
    subst he
    exact List.mem_filterMap.2 ⟨_, hc, rfl⟩
  all_goals (first | exact List.mem_singleton.2 (nbeq_true h).symm | simp at h)

theorem nodup_split {f1 fm f3 : List Nat} (h : (f1 ++ fm ++ f3).Nodup) : (f1 ++ f3).Nodup ∧ fm.Nodup ∧ ∀ b, b ∈ f1 ++ f3 → b ∉ fm := by
  rw [List.append_assoc] at h
  obtain ⟨h1, h2, h3⟩ := List.nodup_append.1 h
  obtain ⟨k1, k2, k3⟩ := List.nodup_append.1 h2
  refine ⟨List.nodup_append.2 ⟨h1, k2, fun a ha b hb => h3 a ha b (by simp [hb])⟩, k1, fun b hb hm => ?_⟩
  rcases List.mem_append.1 hb with hb | hb
  · exact h3 b hb b (by simp [hm]) rfl
  · exact k3 b hm b hb rfl

/-- Taking the value of a part: its ownership is detached. -/
theorem Inv.takeAt {st st1 : St} {a : Act} {w : World} {fps : Nat → List Nat} {fx : List Nat} (h : Inv tg C st a w fps fx) {u : Nat} {p : List Bool} {z : Res} (ht : takeAt st u p = some (st1, z)) :
    ∃ fps1 f, Inv tg C st1 a w fps1 (fx ++ f) ∧ clean z.t z.φ = true ∧ st1.length = st.length ∧ (∀ b, permB C w fps fx b → permB C w fps1 (fx ++ f) b) ∧
      ∃ r o, ownerAt st.at u = some r ∧ partOff p r.t = some (o, z.t) ∧
        Rep tg w (permB C w fps1 (fx ++ f)) z.t z.φ z.x (((ownCells w (st.at u) (a.tmps.getD u undef)).drop o).take z.t.size) f := by
  unfold Ev.takeAt at ht
  split at ht
  case h_2 => cases ht
  rename_i r ho
  split at ht
  case h_2 => cases ht
  rename_i z' hz
  split at ht
  case h_2 => cases ht
  rename_i hc
  obtain ⟨fpc, hrep, hown⟩ := owner_rep (h.rep u) ho
  have hrep0 := hrep
  obtain ⟨c1, cm, c3, f1, fm, f3, hcs, hfp, hoff, hm, hg, hset⟩ := hrep.part p hz
  have hcm : ((ownCells w (st.at u) (a.tmps.getD u undef)).drop c1.length).take z'.t.size = cm := by
    rw [hcs, List.append_assoc, List.drop_left, ← hm.len, List.take_left]
  have hul := ownerAt_lt ho
  split at ht
  case h_2 hno =>
    simp at ht
    obtain ⟨rfl, rfl⟩ := ht
    have e := hm.fp_nil hno
    subst e
    exact ⟨fps, [], by simpa using h, hc, rfl, by simp, r, c1.length, ho, hoff, by rw [hcm]; simpa using hm⟩
  rename_i hho
  simp at ht
  obtain ⟨rfl, rfl⟩ := ht
  have hu : isOwner (st.at u) = true := by
    rcases hown with ⟨e, h1, h2⟩ | ⟨g, b, T, e, h1, h2, h3⟩
    · rw [e]
      cases hh : hasOwn r.t r.φ with
      | true => exact hh
      | false =>
        -- a part of what owns nothing owns nothing
        exact absurd (hasOwn_part hz hho) (by simp [hh])
    · rw [e]; rfl
  have hB0 : ∀ (fpu : List Nat), (∀ b, b ∈ fpu → b ∈ fps u) → ∀ b, permB C w fps fx b → permB C w (fun s => if s = u then fpu else fps s) (fx ++ fm) b := by
    intro fpu hsub b hb
    refine hb.imp id fun k => ⟨k.1, k.2.1, fun s => ?_, ?_⟩
    · show b ∉ (if s = u then fpu else fps s)
      split
      · exact fun hm => k.2.2.1 u (hsub b hm)
      · exact k.2.2.1 s
    · intro hm
      rcases List.mem_append.1 hm with hm | hm
      · exact k.2.2.2 hm
      · refine k.2.2.1 u ?_
        rcases hown with ⟨e, h1, h2⟩ | ⟨g, b', T, e, h1, h2, h3⟩
        · rw [h1, hfp]; simp [hm]
        · rw [h1, hfp]; simp [hm]
  rcases hown with ⟨e, h1, h2⟩ | ⟨g, bb, T, e, h1, h2, h3, h4⟩
  · -- a value in a slot
    have hnd : (f1 ++ fm ++ f3).Nodup := by rw [← hfp, ← h1]; exact h.nodup u
    obtain ⟨n1, n2, n3⟩ := nodup_split hnd
    have hsub : ∀ b, b ∈ f1 ++ f3 → b ∈ fps u := by
      intro b hb; rw [h1, hfp]; rcases List.mem_append.1 hb with hb | hb <;> simp [hb]
    have hsubm : ∀ b, b ∈ fm → b ∈ fps u := by intro b hb; rw [h1, hfp]; simp [hb]
    have hnx : (fx ++ fm).Nodup := List.nodup_append.2 ⟨h.xnodup, n2, fun b hb b' hb' e => h.xdisj u b' (hsubm b' hb') (e ▸ hb)⟩
    have main : ∀ f : AV → AV, f .dead = .dead → (∀ av, isOwner av = true → f av = av) → (∀ s v, v ∈ refsOf (f (st.at s)) → v ∈ refsOf (st.at s)) → (∀ s, u ∉ refsOf (st.at s) → f (st.at s) = st.at s) →
        (∀ s, u ∈ refsOf (st.at s) → f (st.at s) = .dead ∨ (f (st.at s) = killVal u p (st.at s) ∧ hasOwn r.t (goneP p r.t r.φ) = true)) →
        Inv tg C ((st.map f).set u (.v r.t (goneP p r.t r.φ) r.x)) a w (fun s => if s = u then f1 ++ f3 else fps s) (fx ++ fm) := by
      intro f hf0 hf1 hf2 hf3 hf5
      have hst : ∀ s, s ≠ u → St.at ((st.map f).set u (.v r.t (goneP p r.t r.φ) r.x)) s = f (st.at s) := by
        intro s hs
        rw [at_set]; simp only [hs, false_and, if_false]; exact at_map st f hf0 s
      have hstu : St.at ((st.map f).set u (.v r.t (goneP p r.t r.φ) r.x)) u = .v r.t (goneP p r.t r.φ) r.x := by
        rw [at_set]; simp [hul]
      refine h.upd hul rfl hf0 hf1 hf2 hf3 rfl h.frame (fun _ _ _ => rfl) ?_ n1 hnx ?_ ?_ ?_
      · intro b hb
        rcases hb with hb | hb
        · exact .inl (hsub b hb)
        · rcases List.mem_append.1 hb with hb | hb
          · exact .inr hb
          · exact .inl (hsubm b hb)
      · intro b hb hx
        rcases List.mem_append.1 hx with hx | hx
        · exact h.xdisj u b (hsub b hb) hx
        · exact n3 b hb hx
      · exact ⟨_, h2, hg.imp (hB0 _ hsub)⟩
      · intro s hs hr
        rcases hf5 s hr with hd | ⟨hk, hoo⟩
        · rw [hd]
          exact ⟨fun _ => by simp [refsOf], by
            have := refs_fp (h.rep s) hr
            exact this⟩
        · refine ⟨fun hn => by simp [isOwner, hoo] at hn, ?_⟩
          rw [hk]
          rcases killVal_or u p (st.at s) with hk' | hk'
          · rw [hk']
            refine (h.rep s).turn (hB0 _ hsub) (fun _ _ => rfl) hr (fun v hv hvu => by rw [hst v hvu, hf1 _ (h.refs s v hv)]) (fun g t φ x e' => by rw [e] at e'; cases e') (fun r' ho' => ?_) (notLent hr hk') (fun q r' o t' e' ho' hp' => ?_) (fun q i e0 e' r' o v' ho' hp' => ?_)
            · rw [ho] at ho'; simp at ho'; subst ho'
              exact ⟨⟨r.t, goneP p r.t r.φ, r.x⟩, by simp [ownerAt, hstu], rfl⟩
            · rw [hstu, e]; rfl
            · rw [ho] at ho'; simp at ho'; subst ho'
              have hov : overlap p q = false := by
                rcases e' with ⟨x0, q0, e'⟩ | e'
                · rw [e', killVal_pe] at hk'; revert hk'; cases overlap p q <;> simp
                · rw [e', killVal_pw] at hk'; revert hk'; cases overlap p q <;> simp
              refine ⟨fun z hz => ⟨⟨r.t, goneP p r.t r.φ, r.x⟩, by simp [ownerAt, hstu], rfl, by simpa [getP_goneP hov] using hz⟩, fun hv => ?_⟩
              rw [hstu]; rw [e] at hv; exact hv
          · rw [hk']; exact refs_fp (h.rep s) hr
    refine ⟨fun s => if s = u then f1 ++ f3 else fps s, fm, ?_, hc, ?_, hB0 _ hsub, r, c1.length, ho, hoff, ?_⟩
    · rw [e]
      cases hoo : hasOwn r.t (goneP p r.t r.φ) with
      | false =>
        have : setOwner (killAll u st) u ⟨r.t, goneP p r.t r.φ, r.x⟩ = (st.map fun a => cond (refers u a) .dead a).set u (.v r.t (goneP p r.t r.φ) r.x) := by
          have e' : St.at (killAll u st) u = .v r.t r.φ r.x := by
            rw [killAll, at_map _ _ (by simp [refers]), owner_refers hu]; exact e
          unfold setOwner; rw [e']; rfl
        simp only [this]
        refine main _ (by simp [refers]) (fun av hav => by rw [owner_refers hav]; rfl) (fun s v hv => ?_) (fun s hs => ?_) (fun s hs => ?_)
        · cases hr : refers u (st.at s) <;> rw [hr] at hv
          · exact hv
          · simp [refsOf] at hv
        · cases hr : refers u (st.at s) with
          | false => rfl
          | true => exact absurd (refs_of_refers hr) hs
        · left
          rw [refers_of_refs hs]; rfl
      | true =>
        have : setOwner (st.map (killVal u p)) u ⟨r.t, goneP p r.t r.φ, r.x⟩ = (st.map (killVal u p)).set u (.v r.t (goneP p r.t r.φ) r.x) := by
          have e' : St.at (st.map (killVal u p)) u = .v r.t r.φ r.x := by
            rw [at_map _ _ rfl, killVal_owner hu]; exact e
          simp [setOwner, e']
        simp only [this]
        exact main _ rfl (fun av hav => killVal_owner hav) (fun s v hv => killVal_refs hv) (fun s hs => killVal_other hs) (fun s hs => .inr ⟨rfl, hoo⟩)
    · rw [e]
      cases hasOwn r.t (goneP p r.t r.φ) <;> simp [setOwner, killAll] <;> split <;> simp
    · rw [hcm]; exact hm.imp (hB0 _ hsub)
  · -- a variable
    have hnd : (bb :: (f1 ++ fm ++ f3)).Nodup := by rw [← hfp, ← h1]; exact h.nodup u
    obtain ⟨n1, n2, n3⟩ := nodup_split (List.nodup_cons.1 hnd).2
    have hbb := (List.nodup_cons.1 hnd).1
    have hsub : ∀ b, b ∈ bb :: (f1 ++ f3) → b ∈ fps u := by
      intro b hb; rw [h1, hfp]
      rcases List.mem_cons.1 hb with hb | hb
      · simp [hb]
      · rcases List.mem_append.1 hb with hb | hb <;> simp [hb]
    have hsubm : ∀ b, b ∈ fm → b ∈ fps u := by intro b hb; rw [h1, hfp]; simp [hb]
    have hnx : (fx ++ fm).Nodup := List.nodup_append.2 ⟨h.xnodup, n2, fun b hb b' hb' e => h.xdisj u b' (hsubm b' hb') (e ▸ hb)⟩
    have hstu : St.at ((st.map (killVal u p)).set u (.bx g r.t (goneP p r.t r.φ) r.x)) u = .bx g r.t (goneP p r.t r.φ) r.x := by
      rw [at_set]; simp [hul]
    have hst : ∀ s, s ≠ u → St.at ((st.map (killVal u p)).set u (.bx g r.t (goneP p r.t r.φ) r.x)) s = killVal u p (st.at s) := by
      intro s hs
      rw [at_set]; simp only [hs, false_and, if_false]; exact at_map st _ rfl s
    refine ⟨fun s => if s = u then bb :: (f1 ++ f3) else fps s, fm, ?_, hc, ?_, hB0 _ hsub, r, c1.length, ho, hoff, ?_⟩
    · rw [e]
      have e' : St.at (st.map (killVal u p)) u = .bx g r.t r.φ r.x := by
        rw [at_map _ _ rfl, killVal_owner hu]; exact e
      have : setOwner (st.map (killVal u p)) u ⟨r.t, goneP p r.t r.φ, r.x⟩ = (st.map (killVal u p)).set u (.bx g r.t (goneP p r.t r.φ) r.x) := by
        simp [setOwner, e']
      simp only [this]
      refine h.upd hul rfl rfl (fun av hav => killVal_owner hav) (fun s v hv => killVal_refs hv) (fun s hs => killVal_other hs) rfl h.frame (fun _ _ _ => rfl) ?_ ?_ hnx ?_ ?_ ?_
      · intro b hb
        rcases hb with hb | hb
        · exact .inl (hsub b hb)
        · rcases List.mem_append.1 hb with hb | hb
          · exact .inr hb
          · exact .inl (hsubm b hb)
      · refine List.nodup_cons.2 ⟨fun hm => hbb ?_, n1⟩
        rcases List.mem_append.1 hm with hm | hm <;> simp [hm]
      · intro b hb hx
        rcases List.mem_append.1 hx with hx | hx
        · exact h.xdisj u b (hsub b hb) hx
        · rcases List.mem_cons.1 hb with rfl | hb
          · exact hbb (by simp [hx])
          · exact n3 b hb hx
      · exact ⟨bb, _, T, _, h2, h3, hg.imp (hB0 _ hsub), rfl, h4⟩
      · intro s hs hr
        refine ⟨fun hn => by simp [isOwner] at hn, ?_⟩
        rcases killVal_or u p (st.at s) with hk' | hk'
        · rw [hk']
          refine (h.rep s).turn (hB0 _ hsub) (fun _ _ => rfl) hr (fun v hv hvu => by rw [hst v hvu, killVal_owner (h.refs s v hv)]) (fun g' t φ x e' => ?_) (fun r' ho' => ?_) (notLent hr hk') (fun q r' o t' e' ho' hp' => ?_) (fun q i e0 e' r' o v' ho' hp' => ?_)
          · rw [e] at e'; cases e'; exact ⟨_, _, hstu⟩
          · rw [ho] at ho'; simp at ho'; subst ho'
            exact ⟨⟨r.t, goneP p r.t r.φ, r.x⟩, by simp [ownerAt, hstu], rfl⟩
          · rw [hstu, e]; rfl
          · rw [ho] at ho'; simp at ho'; subst ho'
            have hov : overlap p q = false := by
              rcases e' with ⟨x0, q0, e'⟩ | e'
              · rw [e', killVal_pe] at hk'; revert hk'; cases overlap p q <;> simp
              · rw [e', killVal_pw] at hk'; revert hk'; cases overlap p q <;> simp
            refine ⟨fun z hz => ⟨⟨r.t, goneP p r.t r.φ, r.x⟩, by simp [ownerAt, hstu], rfl, by simpa [getP_goneP hov] using hz⟩, fun hv => ?_⟩
            rw [hstu]; rw [e] at hv; exact hv
        · rw [hk']; exact refs_fp (h.rep s) hr
    · rw [e]
      simp [setOwner] <;> split <;> simp
    · rw [hcm]; exact hm.imp (hB0 _ hsub)
end
end Go.Ev
/-
  Operands: looked up, taken.
-/
namespace Go.Ev

theorem getD_toD {st : St} {s : Nat} : st.getD s .dead = st.at s := rfl

section
variable {tg : Nat → Value} {G : GP} {C : Ctx G}

theorem rep_nil {w : World} {B : Nat → Prop} (e : Ty) (φ : Fl) : Rep tg w B (.sl e) (.own none φ) [] [.slice none 0 0] [] :=
  ⟨none, 0, 0, rfl, rfl, Nat.le_refl _, by simp, .inl ⟨rfl, rfl, rfl, rfl⟩⟩
theorem rep_nil_no {w : World} {B : Nat → Prop} (e : Ty) : Rep tg w B (.sl e) .no [] [.slice none 0 0] [] :=
  ⟨none, 0, 0, rfl, rfl, Nat.le_refl _, rfl, by simp⟩

theorem size_one {t : Ty} (h : t.agg = false) : t.size = 1 := by cases t <;> simp [Ty.agg] at h <;> rfl
theorem mkVal_one {w : World} {B : Nat → Prop} {t : Ty} {φ : Fl} {x : El t} {cs : List Value} {fp : List Nat} (h : Rep tg w B t φ x cs fp) (ha : t.agg = false) {vs : List Value} :
    mkVal t cs :: vs = cs ++ vs := by
  have hl := h.len
  rw [size_one ha] at hl
  obtain ⟨v, rfl⟩ := List.length_eq_one_iff.1 hl
  simp [mkVal, ha]

/-- An owner's part, read: its cells, and what they hold. -/
theorem own_part {w : World} {B : Nat → Prop} {st : St} {a : Nat → Value} {fps : Nat → List Nat} {u : Nat} {p : List Bool} {r : Res} (h : RepAV tg w B st a fps (st.at u) (a u) (fps u))
    (hp : ((ownerAt st.at u).bind fun r => getP p r.t r.φ r.x) = some r) (hc : clean r.t r.φ = true) :
    ∃ r0 o, ownerAt st.at u = some r0 ∧ partOff p r0.t = some (o, r.t) ∧
      Rep tg w (fun b => B b ∨ (hasOwn r.t r.φ = true ∧ b ∈ fps u)) r.t .no r.x (((ownCells w (st.at u) (a u)).drop o).take r.t.size) [] := by
  cases ho : ownerAt st.at u with
  | none => simp [ho] at hp
  | some r0 =>
    simp [ho] at hp
    obtain ⟨fpc, hrep, hown⟩ := owner_rep h ho
    obtain ⟨c1, cm, c3, f1, fm, f3, hcs, hfp, hoff, hm, hg, hset⟩ := hrep.part p hp
    refine ⟨r0, c1.length, rfl, hoff, ?_⟩
    rw [hcs, List.append_assoc, List.drop_left, ← hm.len, List.take_left]
    refine (hm.forget hc).imp fun b hb => hb.imp id fun hb => ⟨?_, ?_⟩
    · cases hh : hasOwn r.t r.φ with
      | true => rfl
      | false => rw [hm.fp_nil hh] at hb; simp at hb
    · rcases hown with ⟨_, h1, _⟩ | ⟨_, _, _, _, h1, _⟩ <;> rw [h1, hfp] <;> simp [hb]

theorem mem_drop_take {w : World} {b : Nat} {cs : List Value} {T : TypeId} {fr : Nat × Nat} {o n : Nat} (h : w.heap[b]? = some (.cells cs.toArray T fr)) (hl : ((cs.drop o).take n).length = n) :
    Mem w b o ((cs.drop o).take n) := by
  refine ⟨_, T, fr, h, fun j hj => ?_⟩
  rw [List.getElem_take, List.getElem_drop]
  simp at hl hj
  simp

/-- A pointer into a variable of the call's own, as a pointer to what it holds. -/
theorem pl_ptr {w : World} {B : Nat → Prop} {st : St} {a : Nat → Value} {fps : Nat → List Nat} {u : Nat} {p : List Bool} {r : Res} {c : Value} (h : RepAV tg w B st a fps (st.at u) (a u) (fps u))
    (hc : PlRel st a u p c) (hp : ((ownerAt st.at u).bind fun r => getP p r.t r.φ r.x) = some r) (hcl : clean r.t r.φ = true) :
    Rep tg w (fun b => B b ∨ b ∈ fps u) (.ptr r.t) .no r.x [c] [] := by
  obtain ⟨r0, o, h1, h2, h3⟩ := own_part h hp hcl
  obtain ⟨g, t, φ, x, b, o', t', e1, e2, e3, e4⟩ := hc
  rw [e1] at h
  obtain ⟨b', cs, T, fp', k1, k2, k3, k4, k5⟩ := h
  have : r0 = ⟨t, φ, x⟩ := by simp [ownerAt, e1] at h1; exact h1.symm
  subst this
  rw [e2] at k1
  simp at k1
  subst k1
  rw [h2] at e3
  simp at e3
  obtain ⟨rfl, rfl⟩ := e3
  have hoc : ownCells w (st.at u) (a u) = cs := by rw [e1, e2]; simp [ownCells, k2]
  rw [hoc] at h3
  refine ⟨rfl, b, o, _, by rw [e4], .inr (by rw [k4]; simp), h3.len, mem_drop_take k2 h3.len, h3.imp fun b' hb => hb.imp id And.right⟩

theorem caps_rep {w : World} {B : Nat → Prop} {st : St} {a : Nat → Value} {fps : Nat → List Nat} (h : ∀ u, RepAV tg w B st a fps (st.at u) (a u) (fps u)) :
    ∀ {l : List AV} {vs : List Value} {c : Ct} {b : Bool}, CapRel tg w B st a l vs → capsCt st.at l = some (c, b) → Rep tg w (fun k => B k ∨ (b = true ∧ ∃ u, k ∈ fps u)) c.t .no c.x vs []
  | [], vs, c, b, hr, hc => by
    simp only [capsCt, Option.some.injEq, Prod.mk.injEq] at hc
    obtain ⟨rfl, rfl⟩ := hc
    have : vs = [] := hr
    exact ⟨this, rfl⟩
  | .pl u p :: l, vs, c, b, hr, hc => by
    obtain ⟨v, vs', rfl, h1, h2⟩ := hr
    simp only [capsCt, capCt] at hc
    split at hc
    · rename_i a1 b1 r1 b1' hx hl
      simp only [Option.some.injEq, Prod.mk.injEq] at hc
      obtain ⟨rfl, rfl⟩ := hc
      split at hx
      · rename_i r hp
        split at hx
        · rename_i hcl
          simp only [Option.some.injEq, Prod.mk.injEq] at hx
          obtain ⟨rfl, rfl⟩ := hx
          exact ⟨[v], vs', [], [], rfl, rfl, (pl_ptr (h u) h1 hp hcl).imp fun k hk => hk.imp id fun hk => ⟨rfl, u, hk⟩,
            (caps_rep h h2 hl).imp fun k hk => hk.imp id fun hk => ⟨by simp, hk.2⟩⟩
        · cases hx
      · cases hx
    · cases hc
  | .v t φ x :: l, vs, c, b, hr, hc => by
    obtain ⟨cs, vs', rfl, h0, h1, h2⟩ := hr
    simp only [capsCt, capCt] at hc
    split at hc
    · rename_i a1 b1 r1 b1' hx hl
      simp only [Option.some.injEq, Prod.mk.injEq] at hc
      obtain ⟨rfl, rfl⟩ := hc
      split at hx
      · rename_i hcl
        simp only [Option.some.injEq, Prod.mk.injEq] at hx
        obtain ⟨rfl, rfl⟩ := hx
        simp only [Bool.and_eq_true, Bool.not_eq_true'] at hcl
        refine ⟨cs, vs', [], [], ?_, rfl, (h1.bare h0 hcl.2).imp fun k hk => .inl hk, (caps_rep h h2 hl).imp fun k hk => hk.imp id fun hk => ⟨by simp [hk.1], hk.2⟩⟩
        rw [mkVal_one h1 hcl.1]
      · cases hx
    · cases hc
  | .bx .. :: _, _, _, _, hr, _ => hr.elim
  | .bw .. :: _, _, _, _, hr, _ => hr.elim
  | .al .. :: _, _, _, _, hr, _ => hr.elim
  | .pe .. :: _, _, _, _, hr, _ => hr.elim
  | .pw .. :: _, _, _, _, hr, _ => hr.elim
  | .el .. :: _, _, _, _, hr, _ => hr.elim
  | .fn .. :: _, _, _, _, hr, _ => hr.elim
  | .tup .. :: _, _, _, _, hr, _ => hr.elim
  | .nil :: _, _, _, _, hr, _ => hr.elim
  | .dead :: _, _, _, _, hr, _ => hr.elim
end
end Go.Ev
/-
  What an operand's look-up tells.
-/
namespace Go.Ev

def isPtr : AV → Bool
  | .pl _ _ => true
  | .pe _ _ _ _ _ _ => true
  | _ => false
def isFn : AV → Bool
  | .fn _ _ => true
  | _ => false

section
variable (tg : Nat → Value)
/-- The blocks that an operand's content may lie in. -/
def AB (B : Nat → Prop) (fps : Nat → List Nat) (o : RO) (b : Nat) : Prop := B b ∨ (o.ow = true ∧ (b ∈ fps o.at_ ∨ (isFn o.cp = true ∧ ∃ u, b ∈ fps u)))

structure ROk (w : World) (B : Nat → Prop) (st : St) (a : Nat → Value) (fps : Nat → List Nat) (o : RO) (c : Value) : Prop where
  cp : RepAV tg w B st a fps o.cp c []
  refs : ∀ u, u ∈ refsOf o.cp → isOwner (st.at u) = true
  at_ : ∀ u, u ∈ refsOf o.cp → isFn o.cp = false → u = o.at_
  ptr : isPtr o.cp = true → ∀ k, o.ct = some k → ∃ b off ds, c = .pointer (some ⟨b, off, none⟩) ∧ b ∈ fps o.at_ ∧ Mem w b off ds ∧ Rep tg w (AB B fps o) k.t .no k.x ds []
  val : isPtr o.cp = false → ∀ k, o.ct = some k → ∃ cs, c = mkVal k.t cs ∧ Rep tg w (AB B fps o) k.t .no k.x cs []
variable {tg}

theorem ROk.none_ {w : World} {B : Nat → Prop} {st : St} {a : Nat → Value} {fps : Nat → List Nat} (c : Value) : ROk tg w B st a fps RO.none_ c :=
  ⟨rfl, by simp [RO.none_, refsOf], by simp [RO.none_, refsOf], by simp [RO.none_], by simp [RO.none_]⟩

theorem ofRes_ct {s : Nat} {cp : AV} {o : Option Res} {k : Ct} (h : (ofRes s cp o).ct = some k) : ∃ r, o = some r ∧ clean r.t r.φ = true ∧ k = ⟨r.t, r.x⟩ ∧ (ofRes s cp o).ow = hasOwn r.t r.φ := by
  cases o with
  | none => simp [ofRes] at h
  | some r =>
    simp only [ofRes] at h ⊢
    split at h
    · rename_i hc; simp at h; exact ⟨r, rfl, hc, h.symm, rfl⟩
    · cases h
theorem ofRes_cp (s : Nat) (cp : AV) (o : Option Res) : (ofRes s cp o).cp = cp ∧ (ofRes s cp o).at_ = s := by cases o <;> simp [ofRes]

theorem tup_fp {w : World} {B : Nat → Prop} : ∀ {l : List Res} {vs : List Value} {fp : List Nat}, RepTup tg w B l vs fp → (l.any fun r => hasOwn r.t r.φ) = false → fp = []
  | [], _, _, h, _ => h.2
  | r :: l, _, _, h, ho => by
    obtain ⟨cs, vs', f1, f2, rfl, rfl, h1, h2⟩ := h
    simp only [List.any_cons, Bool.or_eq_false_iff] at ho
    rw [h1.fp_nil ho.1, tup_fp h2 ho.2]
    rfl

theorem resolve_ok {w : World} {B : Nat → Prop} {st : St} {a : Nat → Value} {fps : Nat → List Nat} (h : ∀ u, RepAV tg w B st a fps (st.at u) (a u) (fps u))
    (hr : ∀ s u, u ∈ refsOf (st.at s) → isOwner (st.at u) = true) (s : Nat) : ROk tg w B st a fps (resolve st.at s) (a s) := by
  unfold resolve
  cases e : st.at s with
  | v t φ x =>
    have hs := h s
    rw [e] at hs
    obtain ⟨cs, hc, hrp⟩ := hs
    cases ho : hasOwn t φ with
    | true =>
      simp only [ho]
      obtain ⟨k1, k2⟩ := ofRes_cp s (.al s []) (some ⟨t, φ, x⟩)
      have hoc : ownCells w (st.at s) (a s) = cs := by rw [e, hc]; exact hrp.valCells
      refine ⟨?_, ?_, ?_, ?_, ?_⟩ <;> simp only [k1, k2]
      · exact ⟨rfl, ⟨t, φ, x⟩, 0, t, by simp [ownerAt, e], rfl, by rw [hoc, List.drop_zero, ← hrp.len, List.take_length]; exact hc⟩
      · simp [refsOf, e, isOwner, ho]
      · simp [refsOf]
      · simp [isPtr]
      · intro _ k hk
        obtain ⟨r, hr', hcl, rfl, how⟩ := ofRes_ct hk
        simp at hr'
        subst hr'
        exact ⟨cs, hc, (hrp.forget hcl).imp fun b hb => hb.imp id fun hb => ⟨by rw [how]; exact ho, .inl (by rw [k2]; exact hb)⟩⟩
    | false =>
      simp only [ho]
      cases hcl : clean t φ with
      | false => exact ROk.none_ _
      | true =>
        simp only
        refine ⟨⟨cs, hc, hrp.bare ho hcl⟩, by simp [refsOf], by simp [refsOf], by simp [isPtr], ?_⟩
        intro _ k hk
        simp at hk
        subst hk
        exact ⟨cs, hc, (hrp.bare ho hcl).imp fun _ => .inl⟩
  | bx g t φ x =>
    simp only
    obtain ⟨k1, k2⟩ := ofRes_cp s (.pl s []) (some ⟨t, φ, x⟩)
    have hs := h s
    rw [e] at hs
    obtain ⟨b, cs, T, fp', hc, h1, h2, h3, h4⟩ := hs
    have hpl : PlRel st a s [] (a s) := ⟨g, t, φ, x, b, 0, t, e, hc, rfl, hc⟩
    refine ⟨?_, ?_, ?_, ?_, ?_⟩ <;> simp only [k1, k2]
    · exact ⟨rfl, hpl⟩
    · simp [refsOf, e, isOwner]
    · simp [refsOf]
    · intro _ k hk
      obtain ⟨r, hr', hcl, rfl, how⟩ := ofRes_ct hk
      simp at hr'
      subst hr'
      have hl : ((cs.drop 0).take cs.length).length = cs.length := by simp
      refine ⟨b, 0, cs, hc, by rw [h3]; simp, ?_, ?_⟩
      · have := mem_drop_take (o := 0) (n := cs.length) h1 hl
        simpa using this
      · refine (h2.forget hcl).imp fun b' hb => hb.imp id fun hb => ⟨?_, .inl (by rw [k2, h3]; simp [hb])⟩
        rw [how]
        cases hh : hasOwn t φ with
        | true => rfl
        | false => rw [h2.fp_nil hh] at hb; simp at hb
    · simp [isPtr]
  | bw u t x =>
    have hs := h s
    have hr' := hr s
    rw [e] at hs hr'
    obtain ⟨hf, cs, hc, hrp⟩ := hs
    refine ⟨⟨rfl, cs, hc, hrp⟩, hr', by simp [refsOf], by simp [isPtr], ?_⟩
    intro _ k hk
    simp at hk
    subst hk
    exact ⟨cs, hc, hrp.imp fun b hb => hb.imp id fun hb => ⟨rfl, .inl hb⟩⟩
  | al u p =>
    simp only
    have hs := h s
    have hr' := hr s
    rw [e] at hs hr'
    obtain ⟨hf, r, o, t', h1, h2, h3⟩ := hs
    obtain ⟨k1, k2⟩ := ofRes_cp u (.al u p) ((ownerAt st.at u).bind fun r => getP p r.t r.φ r.x)
    refine ⟨?_, ?_, ?_, ?_, ?_⟩ <;> simp only [k1, k2]
    · exact ⟨rfl, r, o, t', h1, h2, h3⟩
    · exact hr'
    · simp [refsOf]
    · simp [isPtr]
    · intro _ k hk
      obtain ⟨r1, hr1, hcl, rfl, how⟩ := ofRes_ct hk
      obtain ⟨r0, o', m1, m2, m3⟩ := own_part (h u) hr1 hcl
      rw [h1] at m1; simp at m1; subst m1
      rw [h2] at m2; simp at m2
      obtain ⟨rfl, rfl⟩ := m2
      exact ⟨_, h3, m3.imp fun b hb => hb.imp id fun hb => ⟨by rw [how]; exact hb.1, .inl (by rw [k2]; exact hb.2)⟩⟩
  | pl u p =>
    simp only
    have hs := h s
    have hr' := hr s
    rw [e] at hs hr'
    obtain ⟨hf, hpl⟩ := hs
    obtain ⟨k1, k2⟩ := ofRes_cp u (.pl u p) ((ownerAt st.at u).bind fun r => getP p r.t r.φ r.x)
    refine ⟨?_, ?_, ?_, ?_, ?_⟩ <;> simp only [k1, k2]
    · exact ⟨rfl, hpl⟩
    · exact hr'
    · simp [refsOf]
    · intro _ k hk
      obtain ⟨r1, hr1, hcl, rfl, how⟩ := ofRes_ct hk
      obtain ⟨r0, o, m1, m2, m3⟩ := own_part (h u) hr1 hcl
      obtain ⟨g, t, φ, x, b, o', t', e1, e2, e3, e4⟩ := hpl
      have hu := h u
      rw [e1] at hu
      obtain ⟨b', cs, T, fp', n1, n2, n3, n4, n5⟩ := hu
      have : r0 = ⟨t, φ, x⟩ := by simp [ownerAt, e1] at m1; exact m1.symm
      subst this
      rw [e2] at n1
      simp at n1
      subst n1
      rw [m2] at e3
      simp at e3
      obtain ⟨rfl, rfl⟩ := e3
      have hoc : ownCells w (st.at u) (a u) = cs := by rw [e1, e2]; simp [ownCells, n2]
      rw [hoc] at m3
      exact ⟨b, o, _, e4, by rw [n4]; simp, mem_drop_take n2 m3.len, m3.imp fun b hb => hb.imp id fun hb => ⟨by rw [how]; exact hb.1, .inl (by rw [k2]; exact hb.2)⟩⟩
    · simp [isPtr]
  | pe u p i ee x q =>
    simp only
    have hs := h s
    have hr' := hr s
    rw [e] at hs hr'
    obtain ⟨hf, o, t', hq, r, g, φ, xs, b, off, n, cc, po, h1, h2, h3, h4, h5, h6, h7⟩ := hs
    rw [h1]
    simp only [Option.bind_some, h2]
    split
    case h_2 => exact ROk.none_ _
    rename_i y hy
    obtain rfl := castTo_self hy
    obtain ⟨k1, k2⟩ := ofRes_cp u (.pe u p i ee y q) (getP q ee φ y)
    refine ⟨?_, ?_, ?_, ?_, ?_⟩ <;> simp only [k1, k2]
    · exact ⟨rfl, o, t', hq, r, g, φ, xs, b, off, n, cc, po, h1, h2, h3, h4, h5, h6, h7⟩
    · exact hr'
    · simp [refsOf]
    · intro _ k hk
      obtain ⟨r1, hr1, hcl, rfl, how⟩ := ofRes_ct hk
      -- the owner's slice
      obtain ⟨fpc, hrep, hown⟩ := owner_rep (h u) h1
      obtain ⟨c1, cm, c3, f1, fm, f3, hcs, hfp, hoff, hm, hg, hset⟩ := hrep.part p h2
      rw [h5] at hoff
      simp at hoff
      subst hoff
      obtain ⟨A, n', c', hcm, m1, m2, m3, m4⟩ := hm
      rw [hcs, hcm] at h6
      simp at h6
      obtain ⟨rfl, rfl, rfl⟩ := h6
      have hi : i.toNat < xs.length := by
        rcases Nat.lt_or_ge i.toNat xs.length with hh | hh
        · exact hh
        · rw [List.getElem?_eq_none hh] at h4; cases h4
      have hx : xs[i.toNat] = y := by rw [List.getElem?_eq_getElem hi] at h4; simpa using h4
      rcases m4 with ⟨h0, _⟩ | ⟨b', off', ccs, T, fps', hA, n1, n2, n3, n4, n5⟩
      · cases h0
      · simp at hA
        obtain ⟨rfl, rfl⟩ := hA
        have hel := n5 i.toNat hi
        rw [hx] at hel
        obtain ⟨d1, dm, d3, e1, em, e3, hds, hep, hoff2, hm2, _, _⟩ := hel.part q hr1
        rw [hq] at hoff2
        simp at hoff2
        obtain ⟨rfl, rfl⟩ := hoff2
        obtain ⟨hl, hmem⟩ := mem_of_cells (n := ee.size) n1 (row_fits hi (by rw [← m1]; exact m2) n2)
        refine ⟨b, _, dm, h7, ?_, ?_, ?_⟩
        · rcases hown with ⟨_, hh, _⟩ | ⟨_, _, _, _, hh, _⟩ <;> rw [hh, hfp, n4] <;> simp
        · obtain ⟨ccs', T', fr', z1, z2⟩ := hmem
          refine ⟨ccs', T', fr', z1, fun j hj => ?_⟩
          have := z2 (d1.length + j) (by rw [hds]; simp; omega)
          rw [← Nat.add_assoc] at this
          rw [this, List.getElem_of_eq hds]
          congr 1
          rw [List.getElem_of_eq (List.append_assoc d1 dm d3), List.getElem_append_right (by omega)]
          simp only [Nat.add_sub_cancel_left]
          rw [List.getElem_append_left hj]
        · refine (hm2.forget hcl).imp fun b' hb => hb.imp id fun hb => ⟨?_, .inl ?_⟩
          · rw [how]
            cases hh : hasOwn r1.t r1.φ with
            | true => rfl
            | false => rw [hm2.fp_nil hh] at hb; simp at hb
          · rw [k2]
            have hb2 : b' ∈ fps'.flatten := getD_mem_flatten (i := i.toNat) (by rw [hep]; simp [hb])
            rcases hown with ⟨_, hh, _⟩ | ⟨_, _, _, _, hh, _⟩ <;> rw [hh, hfp, n4] <;> simp only [List.mem_append, List.mem_cons] <;> simp only [hb2, true_or, or_true]
    · simp [isPtr]
  | pw u p i ee => exact ROk.none_ _
  | el u t x p i ee y q =>
    have hs := h s
    have hr' := hr s
    rw [e] at hs hr'
    obtain ⟨hf, cs, hc, hrp, -⟩ := hs
    refine ⟨⟨rfl, cs, hc, hrp⟩, hr', by simp [refsOf], by simp [isPtr], ?_⟩
    intro _ k hk
    simp at hk
    subst hk
    exact ⟨cs, hc, hrp.imp fun b hb => hb.imp id fun hb => ⟨rfl, .inl hb⟩⟩
  | fn f caps =>
    have hs := h s
    have hr' := hr s
    rw [e] at hs hr'
    obtain ⟨hf, vs, hc, hcap⟩ := hs
    simp only
    split
    · rename_i c b hcc
      refine ⟨⟨rfl, vs, hc, hcap⟩, hr', by simp [isFn], by simp [isPtr], ?_⟩
      intro _ k hk
      simp at hk
      subst hk
      exact ⟨[a s], by simp [mkVal, Ty.agg], rfl, vs, by rw [hc], (caps_rep h hcap hcc).imp fun k hk => hk.imp id fun hk => ⟨hk.1, .inr ⟨rfl, hk.2⟩⟩⟩
    · exact ⟨⟨rfl, vs, hc, hcap⟩, hr', by simp [isFn], by simp [isPtr], by simp⟩
  | tup l =>
    simp only
    have hs := h s
    rw [e] at hs
    obtain ⟨vs, hc, ht⟩ := hs
    cases ho : l.any fun r => hasOwn r.t r.φ with
    | true => exact ROk.none_ _
    | false =>
      have hf : fps s = [] := tup_fp ht ho
      rw [hf] at ht
      exact ⟨⟨vs, hc, ht⟩, by simp [refsOf], by simp [refsOf], by simp [isPtr], by simp⟩
  | nil =>
    have hs := h s
    rw [e] at hs
    exact ⟨⟨rfl, hs.2⟩, by simp [refsOf], by simp [refsOf], by simp [isPtr], by simp⟩
  | dead => exact ROk.none_ _

theorem getP_partOff : ∀ {p : List Bool} {t : Ty} {φ : Fl} {x : El t} {r : Res}, getP p t φ x = some r → ∃ o, partOff p t = some (o, r.t)
  | [], t, φ, x, r, h => by simp [getP] at h; subst h; exact ⟨0, rfl⟩
  | true :: p, .prod a b, φ, x, r, h => getP_partOff (t := a) h
  | false :: p, .prod a b, φ, x, r, h => by
    obtain ⟨o, ho⟩ := getP_partOff (t := b) h
    exact ⟨a.size + o, by simp [partOff, ho]⟩
  | c :: p, .int _, _, _, _, h => by cases c <;> simp [getP] at h
  | c :: p, .bool, _, _, _, h => by cases c <;> simp [getP] at h
  | c :: p, .fnu, _, _, _, h => by cases c <;> simp [getP] at h
  | c :: p, .str, _, _, _, h => by cases c <;> simp [getP] at h
  | c :: p, .sl _, _, _, _, h => by cases c <;> simp [getP] at h
  | c :: p, .unit, _, _, _, h => by cases c <;> simp [getP] at h
  | c :: p, .ptr _, _, _, _, h => by cases c <;> simp [getP] at h
  | c :: p, .fn _ _, _, _, _, h => by cases c <;> simp [getP] at h

theorem ofRes_ty {s : Nat} {cp : AV} {o : Option Res} {t : Ty} (h : (ofRes s cp o).ty = some t) : ∃ r, o = some r ∧ r.t = t := by
  cases o with
  | none => simp [ofRes] at h
  | some r => simp [ofRes] at h; exact ⟨r, rfl, h⟩

theorem opd_ty {st : St} {x : Operand} {t : Ty} (h : (opd st.at x).ty = some t) :
    (∀ u p, (opd st.at x).cp = .pl u p → ∃ r o, ownerAt st.at u = some r ∧ partOff p r.t = some (o, t)) ∧
    (∀ u p i e y q, (opd st.at x).cp = .pe u p i e y q → ∃ o, partOff q e = some (o, t)) := by
  cases x with
  | const c =>
    revert h
    simp only [opd]
    split <;> simp [RO.none_]
  | func f => simp [opd] at h
  | global g => simp [opd, RO.none_] at h
  | tmp s =>
    revert h
    simp only [opd]
    unfold resolve
    cases e : st.at s with
    | v t φ x =>
      cases ho : hasOwn t φ with
      | true =>
        simp only [ho]
        obtain ⟨k1, k2⟩ := ofRes_cp s (.al s []) (some ⟨t, φ, x⟩)
        intro h
        constructor <;> intros <;> simp_all
      | false =>
        simp only [ho]
        cases clean t φ <;> simp [RO.none_]
    | bx g t φ x =>
      simp only
      obtain ⟨k1, k2⟩ := ofRes_cp s (.pl s []) (some ⟨t, φ, x⟩)
      intro h
      obtain ⟨r, hr, rfl⟩ := ofRes_ty h
      simp at hr
      subst hr
      rw [k1]
      constructor
      · intro u p hp
        simp at hp
        obtain ⟨rfl, rfl⟩ := hp
        exact ⟨⟨t, φ, x⟩, 0, by simp [ownerAt, e], rfl⟩
      · intros; simp_all
    | bw u t x => simp
    | al u p =>
      simp only
      obtain ⟨k1, k2⟩ := ofRes_cp u (.al u p) ((ownerAt st.at u).bind fun r => getP p r.t r.φ r.x)
      intro h
      rw [k1]
      constructor <;> intros <;> simp_all
    | pl u p =>
      simp only
      obtain ⟨k1, k2⟩ := ofRes_cp u (.pl u p) ((ownerAt st.at u).bind fun r => getP p r.t r.φ r.x)
      intro h
      obtain ⟨r, hr, rfl⟩ := ofRes_ty h
      rw [k1]
      constructor
      · intro u' p' hp
        simp at hp
        obtain ⟨rfl, rfl⟩ := hp
        cases ho : ownerAt st.at u with
        | none => simp [ho] at hr
        | some r0 =>
          simp [ho] at hr
          obtain ⟨o, h1⟩ := getP_partOff hr
          exact ⟨r0, o, rfl, h1⟩
      · intros; simp_all
    | pe u p i ee x q =>
      simp only
      split
      case h_2 => simp [RO.none_]
      split
      case h_2 => simp [RO.none_]
      rename_i e' gg φ xs0 hx o0 y hy
      obtain ⟨he, _⟩ := castTo_some hy
      subst he
      obtain ⟨k1, k2⟩ := ofRes_cp u (.pe u p i ee x q) (getP q ee φ y)
      intro h
      obtain ⟨r, hr, rfl⟩ := ofRes_ty h
      rw [k1]
      constructor
      · intros; simp_all
      · intro u' p' i' e'' y' q' hp
        simp at hp
        obtain ⟨rfl, rfl, rfl, rfl, _, rfl⟩ := hp
        exact getP_partOff hr
    | pw u p i ee => simp [RO.none_]
    | el u t x p i ee y q => simp [isPtr]
    | fn f caps => simp only; split <;> simp
    | tup l => simp only; split <;> simp [RO.none_]
    | nil => simp
    | dead => simp [RO.none_]

theorem opd_v_ow {st : St} {x : Operand} {t : Ty} {φ : Fl} {y : El t} (h : (opd st.at x).cp = .v t φ y) : (opd st.at x).ow = false := by
  revert h
  cases x with
  | const c => simp only [opd]; split <;> simp [RO.none_]
  | func f => simp [opd]
  | global g => simp [opd, RO.none_]
  | tmp s =>
    simp only [opd]
    unfold resolve
    cases e : st.at s with
    | v t φ x =>
      cases ho : hasOwn t φ with
      | true => simp only [ho]; rw [(ofRes_cp s (.al s []) (some ⟨t, φ, x⟩)).1]; simp
      | false => simp only [ho]; cases clean t φ <;> simp [RO.none_]
    | bx g t φ x => simp only; rw [(ofRes_cp s (.pl s []) (some ⟨t, φ, x⟩)).1]; simp
    | bw u t x => simp
    | al u p => simp only; rw [(ofRes_cp u (.al u p) _).1]; simp
    | pl u p => simp only; rw [(ofRes_cp u (.pl u p) _).1]; simp
    | pe u p i ee x q =>
      simp only
      split
      case h_2 => simp [RO.none_]
      split
      case h_2 => simp [RO.none_]
      rw [(ofRes_cp u (.pe u p i ee x q) _).1]; simp
    | pw u p i ee => simp [RO.none_]
    | el u t x p i ee y q => simp [isPtr]
    | fn f caps => simp only; split <;> simp
    | tup l => simp only; split <;> simp [RO.none_]
    | nil => simp
    | dead => simp [RO.none_]

theorem opd_v_no {st : St} {x : Operand} {t : Ty} {φ : Fl} {y : El t} (h : (opd st.at x).cp = .v t φ y) : φ = .no := by
  revert h
  cases x with
  | const c =>
    simp only [opd]
    split
    · rename_i t0 φ0 y0 e0
      intro h
      simp at h
      unfold constCt at e0
      split at e0 <;> simp at e0 <;> (obtain ⟨_, rfl, _⟩ := e0; exact h.2.1.symm)
    · simp
    · simp [RO.none_]
  | func f => simp [opd]
  | global g => simp [opd, RO.none_]
  | tmp s =>
    simp only [opd]
    unfold resolve
    cases e : st.at s with
    | v t φ x =>
      cases ho : hasOwn t φ with
      | true => simp only [ho]; rw [(ofRes_cp s (.al s []) (some ⟨t, φ, x⟩)).1]; simp
      | false => simp only [ho]; cases clean t φ <;> simp [RO.none_] <;> (intros; simp_all)
    | bx g t φ x => simp only; rw [(ofRes_cp s (.pl s []) (some ⟨t, φ, x⟩)).1]; simp
    | bw u t x => simp
    | al u p => simp only; rw [(ofRes_cp u (.al u p) _).1]; simp
    | pl u p => simp only; rw [(ofRes_cp u (.pl u p) _).1]; simp
    | pe u p i ee x q =>
      simp only
      split
      case h_2 => simp [RO.none_]
      split
      case h_2 => simp [RO.none_]
      rw [(ofRes_cp u (.pe u p i ee x q) _).1]; simp
    | pw u p i ee => simp [RO.none_]
    | el u t x p i ee y q => simp [isPtr]
    | fn f caps => simp only; split <;> simp
    | tup l => simp only; split <;> simp [RO.none_]
    | nil => simp
    | dead => simp [RO.none_]


theorem opd_al {st : St} {x : Operand} {u : Nat} {p : List Bool} {c : Ct} (h : (opd st.at x).cp = .al u p) (hc : (opd st.at x).ct = some c) : ∃ r o, ownerAt st.at u = some r ∧ partOff p r.t = some (o, c.t) := by
  revert h hc
  cases x with
  | const c => simp only [opd]; split <;> simp [RO.none_]
  | func f => simp [opd]
  | global g => simp [opd, RO.none_]
  | tmp s =>
    simp only [opd]
    unfold resolve
    cases e : st.at s with
    | v t φ x =>
      cases ho : hasOwn t φ with
      | true =>
        simp only [ho]; rw [(ofRes_cp s (.al s []) (some ⟨t, φ, x⟩)).1]
        intro h hc
        obtain ⟨r, hr, _, rfl, _⟩ := ofRes_ct hc
        simp at hr h
        subst hr
        obtain ⟨rfl, rfl⟩ := h
        exact ⟨⟨t, φ, x⟩, 0, by simp [ownerAt, e], rfl⟩
      | false => simp only [ho]; cases clean t φ <;> simp [RO.none_]
    | bx g t φ x => simp only; rw [(ofRes_cp s (.pl s []) (some ⟨t, φ, x⟩)).1]; simp
    | bw u t x => simp
    | al v q =>
      simp only; rw [(ofRes_cp v (.al v q) _).1]
      intro h hc
      obtain ⟨r, hr, _, rfl, _⟩ := ofRes_ct hc
      simp at h
      obtain ⟨rfl, rfl⟩ := h
      cases ho : ownerAt st.at v with
      | none => simp [ho] at hr
      | some r0 =>
        simp [ho] at hr
        obtain ⟨o, h1⟩ := getP_partOff hr
        exact ⟨r0, o, rfl, h1⟩
    | pl u p => simp only; rw [(ofRes_cp u (.pl u p) _).1]; simp
    | pe u p i ee x q =>
      simp only
      split
      case h_2 => simp [RO.none_]
      split
      case h_2 => simp [RO.none_]
      rw [(ofRes_cp u (.pe u p i ee x q) _).1]; simp
    | pw u p i ee => simp [RO.none_]
    | el u t x p i ee y q => simp [isPtr]
    | fn f caps => simp only; split <;> simp
    | tup l => simp only; split <;> simp [RO.none_]
    | nil => simp
    | dead => simp [RO.none_]

theorem opd_ct_ty {st : St} {x : Operand} {c : Ct} (hp : isPtr (opd st.at x).cp = true) (hc : (opd st.at x).ct = some c) : (opd st.at x).ty = some c.t := by
  have key : ∀ (s : Nat) (cp : AV) (o : Option Res) (c : Ct), (ofRes s cp o).ct = some c → (ofRes s cp o).ty = some c.t := by
    intro s cp o c h
    obtain ⟨r, rfl, h1, rfl, _⟩ := ofRes_ct h
    rfl
  revert hp hc
  cases x with
  | const c => simp only [opd]; split <;> simp [RO.none_, isPtr]
  | func f => simp [opd, isPtr]
  | global g => simp [opd, RO.none_]
  | tmp s =>
    simp only [opd]
    unfold resolve
    cases e : st.at s with
    | v t φ x =>
      cases ho : hasOwn t φ with
      | true => simp only [ho]; rw [(ofRes_cp s (.al s []) (some ⟨t, φ, x⟩)).1]; simp [isPtr]
      | false => simp only [ho]; cases clean t φ <;> simp [RO.none_, isPtr]
    | bx g t φ x => simp only; exact fun _ => key _ _ _ _
    | bw u t x => simp [isPtr]
    | al u p => simp only; exact fun _ => key _ _ _ _
    | pl u p => simp only; exact fun _ => key _ _ _ _
    | pe u p i ee x q =>
      simp only
      split
      case h_2 => simp [RO.none_]
      split
      case h_2 => simp [RO.none_]
      exact fun _ => key _ _ _ _
    | pw u p i ee => simp [RO.none_]
    | el u t x p i ee y q => simp [isPtr]
    | fn f caps => simp only; split <;> simp [isPtr]
    | tup l => simp only; split <;> simp [RO.none_, isPtr]
    | nil => simp [isPtr]
    | dead => simp [RO.none_]

theorem opd_al_get {st : St} {x : Operand} {u : Nat} {p : List Bool} {c : Ct} (h : (opd st.at x).cp = .al u p) (hc : (opd st.at x).ct = some c) :
    ∃ r φ', ownerAt st.at u = some r ∧ getP p r.t r.φ r.x = some ⟨c.t, φ', c.x⟩ ∧ hasOwn c.t φ' = (opd st.at x).ow := by
  revert h hc
  cases x with
  | const c => simp only [opd]; split <;> simp [RO.none_]
  | func f => simp [opd]
  | global g => simp [opd, RO.none_]
  | tmp s =>
    simp only [opd]
    unfold resolve
    cases e : st.at s with
    | v t φ x =>
      cases ho : hasOwn t φ with
      | true =>
        simp only [ho]; rw [(ofRes_cp s (.al s []) (some ⟨t, φ, x⟩)).1]
        intro h hc
        obtain ⟨r, hr, _, rfl, how⟩ := ofRes_ct hc
        simp at hr h
        subst hr
        obtain ⟨rfl, rfl⟩ := h
        exact ⟨⟨t, φ, x⟩, φ, by simp [ownerAt, e], rfl, how.symm⟩
      | false => simp only [ho]; cases clean t φ <;> simp [RO.none_]
    | bx g t φ x => simp only; rw [(ofRes_cp s (.pl s []) (some ⟨t, φ, x⟩)).1]; simp
    | bw u t x => simp
    | al v q =>
      simp only; rw [(ofRes_cp v (.al v q) _).1]
      intro h hc
      obtain ⟨r, hr, _, rfl, how⟩ := ofRes_ct hc
      simp at h
      obtain ⟨rfl, rfl⟩ := h
      cases ho : ownerAt st.at v with
      | none => simp [ho] at hr
      | some r0 =>
        have hr' := hr
        simp [ho] at hr
        exact ⟨r0, r.φ, rfl, hr, by rw [ho] at how; exact how.symm⟩
    | pl u p => simp only; rw [(ofRes_cp u (.pl u p) _).1]; simp
    | pe u p i ee x q =>
      simp only
      split
      case h_2 => simp [RO.none_]
      split
      case h_2 => simp [RO.none_]
      rw [(ofRes_cp u (.pe u p i ee x q) _).1]; simp
    | pw u p i ee => simp [RO.none_]
    | el u t x p i ee y q => simp [isPtr]
    | fn f caps => simp only; split <;> simp
    | tup l => simp only; split <;> simp [RO.none_]
    | nil => simp
    | dead => simp [RO.none_]

theorem hasOwn_no : ∀ (t : Ty), hasOwn t .no = false
  | .int _ => rfl
  | .bool => rfl
  | .fnu => rfl
  | .str => rfl
  | .unit => rfl
  | .ptr _ => rfl
  | .fn _ _ => rfl
  | .sl _ => rfl
  | .prod a b => by simp only [hasOwn, Fl.l, Fl.r, hasOwn_no a, hasOwn_no b]; rfl
theorem clean_no : ∀ (t : Ty), clean t .no = true
  | .int _ => rfl
  | .bool => rfl
  | .fnu => rfl
  | .str => rfl
  | .unit => rfl
  | .ptr _ => rfl
  | .fn _ _ => rfl
  | .sl _ => rfl
  | .prod a b => by simp only [clean, Fl.l, Fl.r, clean_no a, clean_no b]; rfl
theorem as_v_no {st : St} {x : Operand} {w : Option Ty} {t : Ty} {φ : Fl} {y : El t} (h : ((opd st.at x).as w).cp = .v t φ y) : φ = .no := by
  unfold RO.as at h
  split at h
  · simp at h; exact h.2.1.symm
  · exact opd_v_no h
end
end Go.Ev
/-
  Operands: constants and functions too; taken.
-/
namespace Go.Ev
section
variable {tg : Nat → Value} {G : GP} {C : Ctx G}

theorem constCt_cases {c : Value} {av : AV} (h : constCt c = av) (hd : av ≠ .dead) :
    (av = .nil ∧ c = .slice none 0 0) ∨ ∃ t x, av = .v t .no x ∧ clean t .no = true ∧ hasOwn t .no = false ∧ t.agg = false ∧ ∀ (w : World) (B : Nat → Prop), Rep tg w B t .no x [c] [] := by
  unfold constCt at h
  split at h
  · subst h; exact .inr ⟨_, _, rfl, rfl, rfl, rfl, fun w B => ⟨rfl, rfl⟩⟩
  · subst h; exact .inr ⟨_, _, rfl, rfl, rfl, rfl, fun w B => ⟨rfl, rfl⟩⟩
  · subst h; exact .inr ⟨_, _, rfl, rfl, rfl, rfl, fun w B => ⟨rfl, rfl⟩⟩
  · subst h; exact .inl ⟨rfl, rfl⟩
  · exact absurd h.symm hd

theorem opd_ok {w : World} {B : Nat → Prop} {st : St} {a : Act} {fps : Nat → List Nat} (h : ∀ u, RepAV tg w B st (fun s => a.tmps.getD s undef) fps (st.at u) (a.tmps.getD u undef) (fps u))
    (hr : ∀ s u, u ∈ refsOf (st.at s) → isOwner (st.at u) = true) (x : Operand) : ROk tg w B st (fun s => a.tmps.getD s undef) fps (opd st.at x) (a.eval x) := by
  cases x with
  | tmp s => exact resolve_ok h hr s
  | const c =>
    simp only [opd, Act.eval]
    split
    · rename_i t φ y e
      rcases constCt_cases (tg := tg) e (by simp) with ⟨h1, h2⟩ | ⟨t', y', h1, h2, h3, h4, h5⟩
      · cases h1
      · cases h1
        refine ⟨⟨[c], by simp [mkVal, h4], h5 _ _⟩, by simp [refsOf], by simp [refsOf], by simp [isPtr], ?_⟩
        intro _ k hk
        simp at hk
        subst hk
        exact ⟨[c], by simp [mkVal, h4], h5 _ _⟩
    · rename_i e
      rcases constCt_cases (tg := tg) e (by simp) with ⟨h1, h2⟩ | ⟨t', y', h1, _⟩
      · exact ⟨⟨rfl, h2⟩, by simp [refsOf], by simp [refsOf], by simp [isPtr], by simp⟩
      · cases h1
    · exact ROk.none_ _
  | func f =>
    simp only [opd, Act.eval]
    refine ⟨⟨rfl, [], rfl, rfl⟩, by simp [refsOf], by simp [refsOf], by simp [isPtr], ?_⟩
    intro _ k hk
    simp at hk
    subst hk
    exact ⟨[.func (.func f) #[] #[]], by simp [mkVal, Ty.agg], rfl, [], rfl, rfl, rfl⟩
  | global g => exact ROk.none_ _

/-- A nil slice at the type that is wanted. -/
theorem ROk.as {w : World} {B : Nat → Prop} {st : St} {a : Nat → Value} {fps : Nat → List Nat} {o : RO} {c : Value} (h : ROk tg w B st a fps o c) (t : Option Ty) : ROk tg w B st a fps (o.as t) c := by
  unfold RO.as
  split
  · rename_i e he
    have hc := h.cp
    rw [he] at hc
    obtain ⟨_, rfl⟩ := hc
    refine ⟨⟨[.slice none 0 0], by simp [mkVal, Ty.agg], rep_nil_no e⟩, by simp [refsOf], by simp [refsOf], by simp [isPtr], ?_⟩
    intro _ k hk
    simp at hk
    subst hk
    exact ⟨[.slice none 0 0], by simp [mkVal, Ty.agg], rep_nil_no e⟩
  · exact h

/-- An operand's value taken, with what is owned of it. -/
theorem Inv.takeOp {st st1 : St} {a : Act} {w : World} {fps : Nat → List Nat} {fx : List Nat} (h : Inv tg C st a w fps fx) {x : Operand} {want : Option Ty} {r : Res} (ht : takeOp st want x = some (st1, r)) :
    ∃ fps1 f cs, Inv tg C st1 a w fps1 (fx ++ f) ∧ clean r.t r.φ = true ∧ st1.length = st.length ∧ (∀ b, permB C w fps fx b → permB C w fps1 (fx ++ f) b) ∧ a.eval x = mkVal r.t cs ∧ Rep tg w (permB C w fps1 (fx ++ f)) r.t r.φ r.x cs f := by
  have triv : ∀ {r : Res} {cs : List Value}, clean r.t r.φ = true → a.eval x = mkVal r.t cs → (Rep tg w (permB C w fps fx) r.t r.φ r.x cs []) →
      ∃ fps1 f cs, Inv tg C st a w fps1 (fx ++ f) ∧ clean r.t r.φ = true ∧ st.length = st.length ∧ (∀ b, permB C w fps fx b → permB C w fps1 (fx ++ f) b) ∧ a.eval x = mkVal r.t cs ∧ Rep tg w (permB C w fps1 (fx ++ f)) r.t r.φ r.x cs f :=
    fun hc he hr => ⟨fps, [], _, by simpa using h, hc, rfl, by simp, he, by simpa using hr⟩
  cases x with
  | tmp s =>
    simp only [Ev.takeOp] at ht
    split at ht
    · rename_i t φ y e
      obtain ⟨fps1, f, h1, h2, h3, h7, r0, o, h4, h5, h6⟩ := h.takeAt ht
      refine ⟨fps1, f, _, h1, h2, h3, h7, ?_, h6⟩
      have hs := h.rep s
      rw [e] at hs
      obtain ⟨cs, hc, hrp⟩ := hs
      simp [ownerAt, e] at h4
      subst h4
      simp only [partOff, Option.some.injEq, Prod.mk.injEq] at h5
      obtain ⟨rfl, rfl⟩ := h5
      have hoc : ownCells w (st.at s) (a.tmps.getD s undef) = cs := by rw [e, hc]; exact hrp.valCells
      rw [hoc, List.drop_zero, ← hrp.len, List.take_length]
      exact hc
    · rename_i u p e
      obtain ⟨fps1, f, h1, h2, h3, h7, r0, o, h4, h5, h6⟩ := h.takeAt ht
      refine ⟨fps1, f, _, h1, h2, h3, h7, ?_, h6⟩
      have hs := h.rep s
      rw [e] at hs
      obtain ⟨_, r1, o1, t1, k1, k2, k3⟩ := hs
      rw [h4] at k1
      simp at k1
      subst k1
      rw [h5] at k2
      simp at k2
      obtain ⟨rfl, rfl⟩ := k2
      exact k3
    · rename_i e
      split at ht
      · rename_i el
        simp at ht
        obtain ⟨rfl, rfl⟩ := ht
        have hs := h.rep s
        rw [e] at hs
        have hcl : clean (.sl el) (.own none (fullFl el)) = true := clean_full (.sl el)
        exact triv (cs := [.slice none 0 0]) hcl (by simp only [Act.eval]; rw [hs.2]; simp [mkVal, Ty.agg]) (rep_nil el _)
      · cases ht
    · rename_i f caps e
      split at ht
      · rename_i c hc
        simp at ht
        obtain ⟨rfl, rfl⟩ := ht
        have hs := h.rep s
        rw [e] at hs
        obtain ⟨_, vs, hv, hcap⟩ := hs
        refine triv (cs := [a.tmps.getD s undef]) rfl (by simp [Act.eval, mkVal, Ty.agg]) ⟨rfl, vs, by rw [hv], ?_⟩
        exact (caps_rep h.rep hcap hc).imp fun k hk => hk.resolve_right (by simp)
      · cases ht
    · cases ht
  | const c =>
    simp only [Ev.takeOp] at ht
    split at ht
    · rename_i t φ y e
      simp at ht
      obtain ⟨rfl, rfl⟩ := ht
      rcases constCt_cases (tg := tg) e (by simp) with ⟨h1, h2⟩ | ⟨t', y', h1, h2, h3, h4, h5⟩
      · cases h1
      · cases h1
        exact triv (cs := [c]) h2 (by simp [Act.eval, mkVal, h4]) (h5 _ _)
    · rename_i e
      split at ht
      · rename_i el
        simp at ht
        obtain ⟨rfl, rfl⟩ := ht
        rcases constCt_cases (tg := tg) e (by simp) with ⟨h1, h2⟩ | ⟨t', y', h1, _⟩
        · exact triv (cs := [.slice none 0 0]) (clean_full (.sl el)) (by simp [Act.eval, mkVal, Ty.agg, h2]) (rep_nil el _)
        · cases h1
      · cases ht
    · cases ht
  | func f =>
    simp only [Ev.takeOp, Option.some.injEq, Prod.mk.injEq] at ht
    obtain ⟨rfl, rfl⟩ := ht
    exact triv (cs := [.func (.func f) #[] #[]]) rfl (by simp [Act.eval, mkVal, Ty.agg]) ⟨rfl, [], rfl, rfl, rfl⟩
  | global g => simp [Ev.takeOp] at ht
end
end Go.Ev
/-
  The program's types beside the contents' types; loads and stores of whole contents.
-/
namespace Go.Ev

def zeroVals : Ty → List Value
  | .int k => [.int k 0]
  | .bool => [.bool false]
  | .fnu => [.nilFunc]
  | .str => [.string ⟨#[]⟩]
  | .sl _ => [.slice none 0 0]
  | .unit => []
  | .prod a b => zeroVals a ++ zeroVals b
  | .ptr _ => [.pointer none]
  | .fn _ _ => [.nilFunc]

def zcell : Ty → Value → Bool
  | .int k, .int j n => kbeq k j && (match n with | .ofNat 0 => true | _ => false)
  | .bool, .bool b => !b
  | .str, .string s => Nat.beq s.data.size 0
  | .sl _, .slice none 0 0 => true
  | .ptr _, .pointer none => true
  | .fn _ _, .nilFunc => true
  | .fnu, .nilFunc => true
  | _, _ => false
def zcells : Ty → List Value → Option (List Value)
  | .unit, l => some l
  | .prod a b, l => match zcells a l with
    | some r => zcells b r
    | none => none
  | t, v :: l => match zcell t v with
    | true => some l
    | false => none
  | _, [] => none
def zeroOk (t : Ty) : Value → Bool
  | .agg cs => t.agg && (match zcells t cs.toList with | some [] => true | _ => false)
  | v => !t.agg && zcell t v

theorem zcell_eq {t : Ty} {v : Value} (ha : t.agg = false) (h : zcell t v = true) : [v] = zeroVals t := by
  unfold zcell at h
  split at h
  · simp only [Bool.and_eq_true] at h
    obtain ⟨h1, h2⟩ := h
    rw [kbeq_eq h1]
    split at h2
    · rfl
    · cases h2
  · simp at h; rw [h]; rfl
  · rename_i s
    obtain ⟨⟨l⟩⟩ := s
    have := nbeq_true h
    simp at this
    subst this
    rfl
  · rfl
  · rfl
  · rfl
  · rfl
  · cases h
theorem zcells_eq : ∀ {t : Ty} {l r : List Value}, zcells t l = some r → l = zeroVals t ++ r
  | .unit, l, r, h => by simp [zcells] at h; simp [zeroVals, h]
  | .prod a b, l, r, h => by
    simp only [zcells] at h
    split at h
    · rename_i m hm
      rw [zcells_eq hm, zcells_eq h]
      simp [zeroVals]
    · cases h
  | .int k, [], r, h => by simp [zcells] at h
  | .bool, [], r, h => by simp [zcells] at h
  | .fnu, [], r, h => by simp [zcells] at h
  | .str, [], r, h => by simp [zcells] at h
  | .sl _, [], r, h => by simp [zcells] at h
  | .ptr _, [], r, h => by simp [zcells] at h
  | .fn _ _, [], r, h => by simp [zcells] at h
  | .int k, v :: l, r, h => by
    simp only [zcells] at h; split at h
    · rename_i hz; simp at h; subst h; rw [← zcell_eq rfl hz]; rfl
    · cases h
  | .bool, v :: l, r, h => by
    simp only [zcells] at h; split at h
    · rename_i hz; simp at h; subst h; rw [← zcell_eq rfl hz]; rfl
    · cases h
  | .fnu, v :: l, r, h => by
    simp only [zcells] at h; split at h
    · rename_i hz; simp at h; subst h; rw [← zcell_eq rfl hz]; rfl
    · cases h
  | .str, v :: l, r, h => by
    simp only [zcells] at h; split at h
    · rename_i hz; simp at h; subst h; rw [← zcell_eq rfl hz]; rfl
    · cases h
  | .sl _, v :: l, r, h => by
    simp only [zcells] at h; split at h
    · rename_i hz; simp at h; subst h; rw [← zcell_eq rfl hz]; rfl
    · cases h
  | .ptr _, v :: l, r, h => by
    simp only [zcells] at h; split at h
    · rename_i hz; simp at h; subst h; rw [← zcell_eq rfl hz]; rfl
    · cases h
  | .fn _ _, v :: l, r, h => by
    simp only [zcells] at h; split at h
    · rename_i hz; simp at h; subst h; rw [← zcell_eq rfl hz]; rfl
    · cases h
theorem zeroOk_eq {t : Ty} {v : Value} (h : zeroOk t v = true) : v = mkVal t (zeroVals t) := by
  unfold zeroOk at h
  split at h
  · rename_i cs
    simp only [Bool.and_eq_true] at h
    obtain ⟨h1, h2⟩ := h
    split at h2
    · rename_i hz
      have := zcells_eq hz
      simp only [List.append_nil] at this
      simp [mkVal, h1, ← this]
    · cases h2
  · simp only [Bool.and_eq_true, Bool.not_eq_true'] at h
    rw [mkVal, h.1, ← zcell_eq h.1 h.2]
    rfl

/-- Do a program's type and a content's type fit? -/
def fieldsOk (ok : TypeId → Ty → Bool) : List Field → Nat → Ty → Bool
  | [], _, .unit => true
  | f :: fs, off, .prod a b => Nat.beq f.offset off && ok f.type a && fieldsOk ok fs (off + a.size) b
  | _, _, _ => false
def tyOk (P : Program) : Nat → TypeId → Ty → Bool
  | 0, _, _ => false
  | n + 1, id, t => (match P.info? id with
      | some i => Nat.beq i.size t.size && (match i.zero with | some z => zeroOk t z | none => false)
      | none => false) && match t, P.underlying id with
        | .int k, some (.int j) => kbeq k j
        | .bool, some .bool => true
        | .str, some .string => true
        | .sl e, some (.slice e') => tyOk P n e' e && Nat.blt 0 e.size
        | .ptr _, some (.pointer _) => true
        | .fn _ _, some (.func _ _ _) => true
        | .fnu, some (.func _ _ _) => true
        | .unit, some (.struct fs) => fieldsOk (tyOk P n) fs.toList 0 .unit
        | .prod a b, some (.struct fs) => fieldsOk (tyOk P n) fs.toList 0 (.prod a b)
        | _, _ => false

section
variable {P : Program}

theorem tyOk_info {n : Nat} {id : TypeId} {t : Ty} (h : tyOk P n id t = true) : ∃ i, P.info? id = some i ∧ i.size = t.size ∧ i.zero = some (mkVal t (zeroVals t)) := by
  cases n with
  | zero => simp [tyOk] at h
  | succ n =>
    simp only [tyOk, Bool.and_eq_true] at h
    obtain ⟨h1, h2⟩ := h
    split at h1
    · rename_i i hi
      simp only [Bool.and_eq_true] at h1
      obtain ⟨h3, h4⟩ := h1
      split at h4
      · rename_i z hz
        exact ⟨i, hi, nbeq_true h3, by rw [hz, zeroOk_eq h4]⟩
      · cases h4
    · cases h1

theorem tyOk_und {n : Nat} {id : TypeId} {t : Ty} (h : tyOk P n id t = true) : ∃ d, P.underlying id = some d ∧ (match d with | .struct _ | .array _ _ => true | _ => false) = t.agg ∧
    match t with
      | .int k => d = .int k
      | .bool => d = .bool
      | .str => d = .string
      | .sl e => ∃ m e', d = .slice e' ∧ tyOk P m e' e = true ∧ 0 < e.size
      | .unit => ∃ fs, d = .struct fs
      | .prod a b => ∃ m fs, d = .struct fs ∧ fieldsOk (tyOk P m) fs.toList 0 (.prod a b) = true
      | .ptr _ => ∃ e, d = .pointer e
      | .fn _ _ => ∃ a b c, d = .func a b c
      | .fnu => ∃ a b c, d = .func a b c := by
  cases n with
  | zero => simp [tyOk] at h
  | succ n =>
    simp only [tyOk, Bool.and_eq_true] at h
    obtain ⟨h1, h2⟩ := h
    clear h1
    cases hu : P.underlying id with
    | none => rw [hu] at h2; cases t <;> simp at h2
    | some d =>
      rw [hu] at h2
      refine ⟨d, rfl, ?_⟩
      cases t <;> cases d <;> simp at h2 <;> first
        | exact ⟨rfl, (congrArg TypeDesc.int (kbeq_eq h2)).symm⟩
        | exact ⟨rfl, rfl⟩
        | exact ⟨rfl, n, _, rfl, h2.1, h2.2⟩
        | exact ⟨rfl, _, rfl⟩
        | exact ⟨rfl, n, _, rfl, h2⟩
        | exact ⟨rfl, _, _, _, rfl⟩

theorem tyOk_agg {n : Nat} {id : TypeId} {t : Ty} (h : tyOk P n id t = true) (w : World) : (isAgg id).run P w = .ok t.agg w := by
  obtain ⟨d, h1, h2, _⟩ := tyOk_und h
  rw [← h2]
  simp only [isAgg, Sem.run_bind, run_underlying h1, Result.andThen_ok]
  cases d <;> rfl

theorem tyOk_sl {n : Nat} {id : TypeId} {e : Ty} (h : tyOk P n id (.sl e) = true) : ∃ m e', P.underlying id = some (.slice e') ∧ tyOk P m e' e = true ∧ 0 < e.size := by
  obtain ⟨d, h1, _, m, e', rfl, h3, h4⟩ := tyOk_und h
  exact ⟨m, e', h1, h3, h4⟩

theorem fieldsOk_at {ok : TypeId → Ty → Bool} : ∀ {fs : List Field} {off : Nat} {t : Ty} {j : Nat} {o : Nat} {u : Ty}, fieldsOk ok fs off t = true → partOff (fieldPath j) t = some (o, u) →
    ∃ f, fs[j]? = some f ∧ f.offset = off + o ∧ ok f.type u = true
  | [], _, .unit, j, o, u, _, h => by cases j <;> simp [fieldPath, partOff] at h
  | f :: fs, off, .prod a b, 0, o, u, hk, h => by
    simp only [fieldsOk, Bool.and_eq_true] at hk
    simp [fieldPath, partOff] at h
    obtain ⟨rfl, rfl⟩ := h
    exact ⟨f, rfl, nbeq_true hk.1.1, hk.1.2⟩
  | f :: fs, off, .prod a b, j + 1, o, u, hk, h => by
    simp only [fieldsOk, Bool.and_eq_true] at hk
    simp only [fieldPath, partOff] at h
    split at h
    · rename_i o' t' hp
      simp at h
      obtain ⟨rfl, rfl⟩ := h
      obtain ⟨f', h1, h2, h3⟩ := fieldsOk_at hk.2 hp
      exact ⟨f', by simpa using h1, by omega, h3⟩
    · cases h

theorem tyOk_field {n : Nat} {id : TypeId} {t : Ty} {j o : Nat} {u : Ty} (h : tyOk P n id t = true) (hp : partOff (fieldPath j) t = some (o, u)) :
    ∃ m fs f, P.underlying id = some (.struct fs) ∧ fs[j]? = some f ∧ f.offset = o ∧ tyOk P m f.type u = true := by
  obtain ⟨d, h1, _, h3⟩ := tyOk_und h
  cases t <;> (try (cases j <;> simp [fieldPath, partOff] at hp; done))
  case prod a b =>
    obtain ⟨m, fs, rfl, h4⟩ := h3
    obtain ⟨f, k1, k2, k3⟩ := fieldsOk_at h4 hp
    exact ⟨m, fs, f, h1, by simpa using k1, by simpa using k2, k3⟩

end
end Go.Ev
/-
  Runs of the model's loads, stores, new rows at whole contents.
-/
namespace Go.Ev
section
variable {tg : Nat → Value} {G : GP} {C : Ctx G} {P : Program}

theorem fnuV_one (x : Option Nat) : (fnuV x).oneCell' = true := by cases x <;> rfl
theorem Rep.one {w : World} {B : Nat → Prop} : ∀ {t : Ty} {φ : Fl} {x : El t} {cs : List Value} {fp : List Nat}, Rep tg w B t φ x cs fp → ∀ v, v ∈ cs → v.oneCell' = true
  | .int _, _, _, _, _, h, v, hv => by rw [h.1] at hv; simp at hv; subst hv; rfl
  | .bool, _, _, _, _, h, v, hv => by rw [h.1] at hv; simp at hv; subst hv; rfl
  | .fnu, _, _, _, _, h, v, hv => by rw [h.1] at hv; simp at hv; subst hv; exact fnuV_one _
  | .str, _, _, _, _, h, v, hv => by rw [h.1] at hv; simp at hv; subst hv; rfl
  | .unit, _, _, _, _, h, v, hv => by rw [h.1] at hv; simp at hv
  | .ptr _, _, _, _, _, h, v, hv => by obtain ⟨_, b, off, ds, rfl, _⟩ := h; simp at hv; subst hv; rfl
  | .fn _ _, _, _, _, _, h, v, hv => by obtain ⟨_, caps, rfl, _⟩ := h; simp at hv; subst hv; rfl
  | .sl _, _, _, _, _, h, v, hv => by obtain ⟨A, n, c, rfl, _⟩ := h; simp at hv; subst hv; rfl
  | .prod a b, _, _, _, _, h, v, hv => by
    obtain ⟨c1, c2, f1, f2, rfl, rfl, h1, h2⟩ := h
    rcases List.mem_append.1 hv with hv | hv
    · exact h1.one v hv
    · exact h2.one v hv

theorem addr_add (b off n : Nat) : (⟨b, off, none⟩ : Addr).add n = ⟨b, off + n, none⟩ := by unfold Addr.add; split <;> simp_all

theorem Mem.cell {w : World} {b off : Nat} {cs : List Value} (h : Mem w b off cs) {j : Nat} {v : Value} (hj : cs[j]? = some v) : w.cell? ⟨b, off + j, none⟩ = some v := by
  obtain ⟨ccs, T, fr, h1, h2⟩ := h
  have hl : j < cs.length := (List.getElem?_eq_some_iff.1 hj).1
  have := h2 j hl
  rw [List.getElem?_eq_getElem hl] at hj
  simp at hj
  simp [World.cell?, h1, this, hj]

theorem run_loadCells_mem {w : World} {b off : Nat} {cs : List Value} (h : Mem w b off cs) : (loadCells ⟨b, off, none⟩ cs.length).run P w = .ok cs.toArray w :=
  run_loadCells_list w _ cs fun j v hj => by rw [addr_add]; exact h.cell hj

theorem run_loadVar_mem {n : Nat} {id : TypeId} {t : Ty} (ht : tyOk P n id t = true) {w : World} {b off : Nat} {cs : List Value} (hl : cs.length = t.size) (hm : Mem w b off cs) :
    (loadVar id ⟨b, off, none⟩).run P w = .ok (mkVal t cs) w := by
  obtain ⟨i, h1, h2, h3⟩ := tyOk_info ht
  simp only [loadVar, Sem.run_bind, tyOk_agg ht, Result.andThen_ok]
  cases ha : t.agg with
  | true =>
    simp [sizeOf, typeInfo, h1, h2, ← hl, run_loadCells_mem hm, mkVal, ha]
  | false =>
    have hl1 : cs.length = 1 := by rw [hl, size_one ha]
    obtain ⟨v, rfl⟩ := List.length_eq_one_iff.1 hl1
    have := hm.cell (j := 0) (v := v) rfl
    simp only [Nat.add_zero] at this
    simp [this, mkVal, ha]

theorem valCells_len {t : Ty} {cs : List Value} (hl : cs.length = t.size) (h1 : ∀ v, v ∈ cs → v.oneCell' = true) : (mkVal t cs).cells = cs.toArray := by
  cases ha : t.agg with
  | true => simp [mkVal, ha, Value.cells]
  | false =>
    have hl1 : cs.length = 1 := by rw [hl, size_one ha]
    obtain ⟨v, rfl⟩ := List.length_eq_one_iff.1 hl1
    have := h1 v (by simp)
    cases v <;> simp [Value.oneCell'] at this <;> simp [mkVal, ha, Value.cells]

theorem run_storeVar_row {n : Nat} {id : TypeId} {t : Ty} (ht : tyOk P n id t = true) {w : World} {b off : Nat} {ccs : Array Value} {T : TypeId} {vs : List Value} (hb : w.heap[b]? = some (.cells ccs T (0, 0)))
    (hl : vs.length = t.size) (h1 : ∀ v, v ∈ vs → v.oneCell' = true) (hs : off + t.size ≤ ccs.size) :
    (storeVar id ⟨b, off, none⟩ (mkVal t vs)).run P w = .ok () (w.setRow b (ccs.toList.take off ++ vs ++ ccs.toList.drop (off + vs.length)).toArray) := by
  obtain ⟨i, k1, k2, k3⟩ := tyOk_info ht
  have hc := valCells_len hl h1
  have hst := run_storeCells_at (P := P) b off T vs 0 ccs w hb (by omega) h1
  simp only [Nat.add_zero] at hst
  simp [storeVar, sizeOf, typeInfo, k1, k2, hc, hl]
  rw [hst, hl, List.append_assoc]

theorem run_newVar {w : World} {t : Ty} {id : TypeId} {cs : List Value} (hl : cs.length = t.size) (h1 : ∀ v, v ∈ cs → v.oneCell' = true) :
    (newVar id (mkVal t cs)).run P w = .ok ⟨w.heap.size, 0, none⟩ (w.alloc (.cells cs.toArray id)) := by
  simp [newVar, newRow, valCells_len hl h1]

theorem alloc_heap (w : World) (o : Obj) : (w.alloc o).heap[w.heap.size]? = some o := Array.getElem?_push_size
theorem alloc_below (w : World) (o : Obj) : RowKit.Below w.heap.size w (w.alloc o) := (RowKit.Below.refl _ w).alloc (Nat.le_refl _) o
theorem setRow_frame (w : World) (b : Nat) (cs : Array Value) (B : Nat) (hb : B ≤ b) : RowKit.Below B w (w.setRow b cs) :=
  ⟨rfl, rfl, rfl, Nat.le_of_eq (size_setRow w b cs).symm, fun k hk => setRow_other w b k cs (by omega)⟩

theorem zero_rep {w : World} {B : Nat → Prop} : ∀ {t : Ty} {z : El t}, zeroEl t = some z → Rep tg w B t (fullFl t) z (zeroVals t) []
  | .int k, z, h => by simp [zeroEl] at h; subst h; exact ⟨rfl, rfl⟩
  | .bool, z, h => by simp [zeroEl] at h; subst h; exact ⟨rfl, rfl⟩
  | .fnu, z, h => by simp [zeroEl] at h; subst h; exact ⟨rfl, rfl⟩
  | .str, z, h => by simp [zeroEl] at h; subst h; exact ⟨rfl, rfl⟩
  | .unit, z, h => ⟨rfl, rfl⟩
  | .sl e, z, h => by simp [zeroEl] at h; subst h; exact rep_nil e _
  | .prod a b, z, h => by
    simp only [zeroEl] at h
    split at h
    · rename_i x y hx hy
      simp at h
      subst h
      exact ⟨_, _, [], [], rfl, rfl, zero_rep hx, zero_rep hy⟩
    · cases h
  | .ptr _, z, h => by simp [zeroEl] at h
  | .fn _ _, z, h => by simp [zeroEl] at h
end
end Go.Ev
/-
  Contracts; the quiet operations are sound, the first half.
-/
namespace Go.Ev

/-- A call by the function's number: entered, or answered at once. -/
def CallsV (P : Program) (f : Nat) (args : Array Value) (w : World) (R : Value → World → Prop) : Prop :=
  match (callFunc f args).run P w with
  | .ok (.enter g as) w1 => Calls P g as w1 fun e w2 => ∃ v, e = .returned v ∧ R v w2
  | .ok (.value v) w1 => R v w1
  | _ => False

section
variable (tg : Nat → Value)
def ArgsRep (w : World) (B : Nat → Prop) : List Ct → List Value → Prop
  | [], vs => vs = []
  | c :: l, vs => ∃ cs vs', vs = mkVal c.t cs :: vs' ∧ Rep tg w B c.t .no c.x cs [] ∧ ArgsRep w B l vs'
def ResRep (w : World) (B : Nat → Prop) : List Res → Value → List Nat → Prop
  | [r], v, fp => ∃ cs, v = mkVal r.t cs ∧ Rep tg w B r.t r.φ r.x cs fp
  | l, v, fp => ∃ vs : List Value, v = .tuple vs.toArray ∧ RepTup tg w B l vs fp
end

/-- What a call comes to, at contents: no block that was there turns. -/
def Contract (G : GP) (P : Program) (f : Nat) (args : List Ct) (res : List Res) : Prop :=
  ∀ (tg : Nat → Value) (w : World) (Bp : Nat → Prop) (vals : List Value), G.G w → (∀ b, Bp b → b < w.heap.size) → ArgsRep tg w Bp args vals →
    CallsV P f vals.toArray w fun v w' => ∃ fp, RowKit.Below w.heap.size w w' ∧ fp.Nodup ∧ (∀ b, b ∈ fp → w.heap.size ≤ b ∧ b < w'.heap.size) ∧
      ResRep tg w' (fun b => Bp b ∨ (w.heap.size ≤ b ∧ b < w'.heap.size ∧ b ∉ fp)) res v fp

/-- What was there is as it was, but for the blocks fp. -/
def FrameW (w w' : World) (fp : List Nat) : Prop := w'.os = w.os ∧ w'.tape = w.tape ∧ w'.output = w.output ∧ w.heap.size ≤ w'.heap.size ∧ ∀ k, k < w.heap.size → k ∉ fp → w'.heap[k]? = w.heap[k]?
/-- A call that writes into what its first argument owns. -/
def ContractW (G : GP) (P : Program) (f : Nat) (t : Ty) (x : El t) (args : List Ct) (res : List Res) (y : El t) : Prop :=
  ∀ (tg : Nat → Value) (w : World) (Bp : Nat → Prop) (cs : List Value) (fp : List Nat) (vals : List Value), G.G w → (∀ b, Bp b → b < w.heap.size ∧ b ∉ fp) → fp.Nodup → (∀ b, b ∈ fp → b < w.heap.size ∧ G.g0 ≤ b) →
    Rep tg w Bp t (fullFl t) x cs fp → ArgsRep tg w Bp args vals →
    CallsV P f (mkVal t cs :: vals).toArray w fun v w' => ∃ fp', FrameW w w' fp ∧ fp'.Nodup ∧ (∀ b, b ∈ fp' → b < w'.heap.size ∧ (b ∈ fp ∨ w.heap.size ≤ b)) ∧
      Rep tg w' (fun _ => False) t (fullFl t) y cs fp' ∧ ResRep tg w' (fun _ => False) res v []

structure EnvOk (G : GP) (P : Program) (E : Env) : Prop where
  ty : ∀ id t, E.τ id = some t → tyOk P 30 id t = true
  by_ : ∀ id e e' i, E.τ id = some (.sl e) → P.underlying id = some (.slice e') → P.info? e' = some i → i.bytes = E.by_ id
  nat : ∀ (f : Nat) (args : List Ct) {β : Type} (K : List Res → Option β), E.Γ f args K = (E.Γ f args some).bind K
  Γ : ∀ (f : Nat) (args : List Ct) (res : List Res), E.Γ f args some = some res → Contract G P f args res
  natΦ : ∀ (f : Nat) (args : List Ct) {β : Type} (K : List Res → Option β), E.Φ f args K = (E.Φ f args some).bind K
  Φ : ∀ (f : Nat) (args : List Ct) (res : List Res), E.Φ f args some = some res → Contract G P f args res
  natW : ∀ (f : Nat) (t : Ty) (x : El t) (args : List Ct) {β : Type} (K : List Res → El t → Option β), E.ΓW f t x args K = (E.ΓW f t x args fun r y => some (r, y)).bind fun z => K z.1 z.2
  ΓW : ∀ (f : Nat) (t : Ty) (x : El t) (args : List Ct) (res : List Res) (y : El t), E.ΓW f t x args (fun r y => some (r, y)) = some (res, y) → ContractW G P f t x args res y

/-- Contracts are natural in what follows. -/
def NatE (E : Env) : Prop := (∀ (f : Nat) (args : List Ct) {β : Type} (K : List Res → Option β), E.Γ f args K = (E.Γ f args some).bind K) ∧ ∀ (f : Nat) (args : List Ct) {β : Type} (K : List Res → Option β), E.Φ f args K = (E.Φ f args some).bind K
theorem EnvOk.natE {G : GP} {P : Program} {E : Env} (h : EnvOk G P E) : NatE E := ⟨h.nat, h.natΦ⟩

section
variable {tg : Nat → Value} {G : GP} {C : Ctx G} {P : Program} {E : Env} {β : Type}

theorem wp_value {o : Oper} {a : Act} {w w' : World} {v : Value} {next : Act → World → Prop} {Q : Exit → Act → World → Prop} (h : (execOp a.eval o).run P w = .ok (.value v) w') (hn : next (a.put o.dst v) w') :
    o.wp P a w next Q := by simp only [Oper.wp, h, Oper.upon]; exact hn

/-- What an operation that turns nothing comes to. -/
def Yields (tg : Nat → Value) {G : GP} (C : Ctx G) (P : Program) (st : St) (a : Act) (w : World) (fps : Nat → List Nat) (o : Oper) (av : AV) : Prop :=
  (∀ u, u ∈ refsOf av → isOwner (st.at u) = true) ∧
  ∀ (next : Act → World → Prop) (Q : Exit → Act → World → Prop),
    (∀ v w' fx, RowKit.Below w.heap.size w w' → fx.Nodup → (∀ b, b ∈ fx → w.heap.size ≤ b ∧ b < w'.heap.size) →
      RepAV tg w' (permB C w' fps fx) st (fun s => a.tmps.getD s undef) fps av v fx → next (a.put o.dst v) w') →
    o.wp P a w next Q

/-- Without new memory. -/
theorem Yields.pure {st : St} {a : Act} {w : World} {fps : Nat → List Nat} {o : Oper} {av : AV} {v : Value} (hr : ∀ u, u ∈ refsOf av → isOwner (st.at u) = true)
    (hv : RepAV tg w (permB C w fps []) st (fun s => a.tmps.getD s undef) fps av v []) (h : (execOp a.eval o).run P w = .ok (.value v) w) : Yields tg C P st a w fps o av :=
  ⟨hr, fun next Q hn => wp_value h (hn v w [] (RowKit.Below.refl _ _) (by simp) (by simp) hv)⟩

theorem Yields.scalar {st : St} {a : Act} {w : World} {fps : Nat → List Nat} {o : Oper} {t : Ty} {x : El t} {cs : List Value} (hv : Rep tg w (permB C w fps []) t .no x cs [])
    (h : (execOp a.eval o).run P w = .ok (.value (mkVal t cs)) w) : Yields tg C P st a w fps o (.v t .no x) :=
  .pure (by simp [refsOf]) ⟨cs, rfl, hv⟩ h

theorem yInt {st : St} {a : Act} {w : World} {fps : Nat → List Nat} {o : Oper} {k : IntKind} {n : Int} (h : (execOp a.eval o).run P w = .ok (.value (.int k n)) w) : Yields tg C P st a w fps o (.v (.int k) .no n) :=
  .scalar (cs := [.int k n]) ⟨rfl, rfl⟩ h
theorem yBool {st : St} {a : Act} {w : World} {fps : Nat → List Nat} {o : Oper} {n : Bool} (h : (execOp a.eval o).run P w = .ok (.value (.bool n)) w) : Yields tg C P st a w fps o (.v .bool .no n) :=
  .scalar (cs := [.bool n]) ⟨rfl, rfl⟩ h
theorem yStr {st : St} {a : Act} {w : World} {fps : Nat → List Nat} {o : Oper} {n : ByteArray} (h : (execOp a.eval o).run P w = .ok (.value (.string n)) w) : Yields tg C P st a w fps o (.v .str .no n) :=
  .scalar (cs := [.string n]) ⟨rfl, rfl⟩ h

theorem vc_ct {o : RO} {c : Ct} (h : o.vc = some c) : isPtr o.cp = false ∧ o.ct = some c := by
  unfold RO.vc at h
  split at h
  · cases h
  · cases h
  · rename_i h1 h2
    refine ⟨?_, h⟩
    unfold isPtr
    split
    · rename_i e; exact absurd e (h1 _ _)
    · rename_i e; exact absurd e (h2 _ _ _ _ _ _)
    · rfl

/-- Contents of scalars are their values. -/
theorem ROk.int {w : World} {B : Nat → Prop} {st : St} {a : Nat → Value} {fps : Nat → List Nat} {o : RO} {c : Value} {k : IntKind} {n : Int} (h : ROk tg w B st a fps o c) (hc : o.vc = some ⟨.int k, n⟩) : c = .int k n := by
  obtain ⟨hp, hc⟩ := vc_ct hc
  obtain ⟨cs, rfl, h1⟩ := h.val hp _ hc
  rw [h1.1]; rfl
theorem ROk.bool {w : World} {B : Nat → Prop} {st : St} {a : Nat → Value} {fps : Nat → List Nat} {o : RO} {c : Value} {n : Bool} (h : ROk tg w B st a fps o c) (hc : o.vc = some ⟨.bool, n⟩) : c = .bool n := by
  obtain ⟨hp, hc⟩ := vc_ct hc
  obtain ⟨cs, rfl, h1⟩ := h.val hp _ hc
  rw [h1.1]; rfl
theorem ROk.str {w : World} {B : Nat → Prop} {st : St} {a : Nat → Value} {fps : Nat → List Nat} {o : RO} {c : Value} {n : ByteArray} (h : ROk tg w B st a fps o c) (hc : o.vc = some ⟨.str, n⟩) : c = .string n := by
  obtain ⟨hp, hc⟩ := vc_ct hc
  obtain ⟨cs, rfl, h1⟩ := h.val hp _ hc
  rw [h1.1]; rfl
theorem ROk.sl {w : World} {B : Nat → Prop} {st : St} {a : Nat → Value} {fps : Nat → List Nat} {o : RO} {c : Value} {e : Ty} {xs : El (.sl e)} (h : ROk tg w B st a fps o c) (hc : o.vc = some ⟨.sl e, xs⟩) :
    ∃ A n cc, c = .slice A n cc ∧ n = xs.length ∧ n ≤ cc ∧ Rep tg w (AB B fps o) (.sl e) .no xs [c] [] := by
  obtain ⟨hp, hc⟩ := vc_ct hc
  obtain ⟨cs, rfl, h1⟩ := h.val hp _ hc
  obtain ⟨A, n, cc, rfl, h2, h3, h4⟩ := h1
  exact ⟨A, n, cc, rfl, h2, h3, ⟨A, n, cc, rfl, h2, h3, h4⟩⟩
end
end Go.Ev
/-
  The quiet operations are sound: copies, arithmetic, comparisons, conversions.
-/
namespace Go.Ev
section
variable {tg : Nat → Value} {G : GP} {C : Ctx G} {P : Program} {E : Env} {β : Type}

theorem guardB_some {b : Bool} {K : Option β} {r : β} (h : guardB b K = some r) : b = true ∧ K = some r := by
  cases b with
  | true => exact ⟨rfl, h⟩
  | false => cases h
theorem obind_some {α : Type} {o : Option α} {K : α → Option β} {r : β} (h : obind o K = some r) : ∃ x, o = some x ∧ K x = some r := by
  cases o with
  | none => cases h
  | some x => exact ⟨x, rfl, h⟩

abbrev Aim (tg : Nat → Value) {G : GP} (C : Ctx G) (P : Program) (st : St) (a : Act) (w : World) (fps : Nat → List Nat) (o : Oper) (K : AV → Option β) (r : β) : Prop :=
  ∃ av, K av = some r ∧ Yields tg C P st a w fps o av

section
variable {st : St} {a : Act} {w : World} {fps : Nat → List Nat} {dst : Option Tmp} {ty : TypeId} {pos : String} {after : Array Edge} {guard : Option (Nat × Bool)} {K : AV → Option β} {r : β}

theorem q_copy (h : Inv tg C st a w fps []) (op : Op) (x : Operand) (ho : op = .move x ∨ op = .assign x) (he : evQ E (opd st.at) ⟨dst, op, ty, pos, after, guard⟩ K = some r) : Aim tg C P st a w fps ⟨dst, op, ty, pos, after, guard⟩ K r := by
  have hk := opd_ok h.rep h.refs x
  have hr : (execOp a.eval ⟨dst, op, ty, pos, after, guard⟩).run P w = .ok (.value (a.eval x)) w := by rcases ho with rfl | rfl <;> rfl
  rcases ho with rfl | rfl
  all_goals
    simp only [evQ] at he
    split at he
    · cases he
    · rename_i e ec es
      have hc := hk.cp
      rw [ec] at hc
      exact ⟨_, he, .pure (by simp [refsOf]) ⟨[.slice none 0 0], by rw [hc.2]; simp [mkVal, Ty.agg], rep_nil e _⟩ hr⟩
    · exact ⟨_, he, .pure hk.refs hk.cp hr⟩

theorem q_pick (h : Inv tg C st a w fps []) (c x y : Operand) (he : evQ E (opd st.at) ⟨dst, .pick c x y, ty, pos, after, guard⟩ K = some r) : Aim tg C P st a w fps ⟨dst, .pick c x y, ty, pos, after, guard⟩ K r := by
  simp only [evQ] at he
  have hc := opd_ok h.rep h.refs c
  have hx := opd_ok h.rep h.refs x
  have hy := opd_ok h.rep h.refs y
  split at he
  · rename_i b1 b2 b3 e1 e2 e3
    refine ⟨_, he, yBool ?_⟩
    have k1 := hc.bool e1; have k2 := hx.bool e2; have k3 := hy.bool e3
    cases b1 <;> simp [execOp, k1, k2, k3, asBool]
  · rename_i b1 b2 e1 e2 e3
    obtain ⟨rfl, he⟩ := guardB_some he
    refine ⟨_, he, yBool ?_⟩
    have k1 := hc.bool e1; have k2 := hx.bool e2
    simp [execOp, k1, k2, asBool]
  · rename_i b1 b2 e1 e2 e3
    obtain ⟨hb, he⟩ := guardB_some he
    refine ⟨_, he, yBool ?_⟩
    have k1 := hc.bool e1; have k2 := hy.bool e3
    simp at hb
    subst hb
    simp [execOp, k1, k2, asBool]
  · cases he

theorem q_un (h : Inv tg C st a w fps []) (op : UnOp) (t : TypeId) (x : Operand) (he : evQ E (opd st.at) ⟨dst, .unOp op t x, ty, pos, after, guard⟩ K = some r) : Aim tg C P st a w fps ⟨dst, .unOp op t x, ty, pos, after, guard⟩ K r := by
  simp only [evQ] at he
  have hx := opd_ok h.rep h.refs x
  split at he
  · rename_i c e
    unfold un at he
    split at he
    · refine ⟨_, he, yInt ?_⟩
      simp [execOp, hx.int e, Op.unary, Op.intArith]
    · refine ⟨_, he, yInt ?_⟩
      simp [execOp, hx.int e, Op.unary, Op.intBits]
    · refine ⟨_, he, yBool ?_⟩
      simp [execOp, hx.bool e, Op.unary]
    · cases he
  · cases he

theorem eqGuard_int (op : BinOp) (t : TypeId) (x y : Operand) (k j : IntKind) (m n : Int) : (eqGuard op t x y (.int k m) (.int j n)).run P w = .ok () w := by cases op <;> rfl
theorem eqGuard_str (op : BinOp) (t : TypeId) (x y : Operand) (m n : ByteArray) : (eqGuard op t x y (.string m) (.string n)).run P w = .ok () w := by cases op <;> rfl
theorem eqGuard_bool (op : BinOp) (t : TypeId) (x y : Operand) (m n : Bool) : (eqGuard op t x y (.bool m) (.bool n)).run P w = .ok () w := by cases op <;> rfl

theorem q_bin (hE : EnvOk G P E) (h : Inv tg C st a w fps []) (op : BinOp) (t : TypeId) (x y : Operand) (t' : TypeId) (he : evQ E (opd st.at) ⟨dst, .binOp op t x y t', ty, pos, after, guard⟩ K = some r) :
    Aim tg C P st a w fps ⟨dst, .binOp op t x y t', ty, pos, after, guard⟩ K r := by
  simp only [evQ] at he
  have hx := opd_ok h.rep h.refs x
  have hy := opd_ok h.rep h.refs y
  split at he
  · rename_i t1 f1 x1 t2 f2 x2 ca cb ecx ecy e1 e2
    have v1 : (opd st.at x).vc = some ca := by simp [RO.vc, ecx, e1]
    have v2 : (opd st.at y).vc = some cb := by simp [RO.vc, ecy, e2]
    unfold bin at he
    split at he
    · rename_i k m j n
      have k1 := hx.int v1
      have k2 := hy.int v2
      have hg : ∀ op, (eqGuard op t x y (.int k m) (.int j n)).run P w = .ok () w := fun op => eqGuard_int op t x y _ _ _ _
      split at he
      · simp only [shiftBin] at he
        obtain ⟨hb, he⟩ := guardB_some he
        refine ⟨_, he, yInt ?_⟩
        have hb' : ¬ n < 0 := Int.not_lt.2 (of_decide_eq_true hb)
        simp [execOp, k1, k2, hg, binOp, Op.shift, hb']
      · simp only [shiftBin] at he
        obtain ⟨hb, he⟩ := guardB_some he
        refine ⟨_, he, yInt ?_⟩
        have hb' : ¬ n < 0 := Int.not_lt.2 (of_decide_eq_true hb)
        simp [execOp, k1, k2, hg, binOp, Op.shift, hb']
      · rename_i hs1 hs2
        split at he
        case h_2 => cases he
        rename_i hk
        have hkk := kbeq_eq hk
        subst hkk
        cases op <;> simp only [intBin] at he <;> first
          | (exact absurd rfl hs1)
          | (exact absurd rfl hs2)
          | (refine ⟨_, he, yInt ?_⟩; simp [execOp, k1, k2, hg, binOp, Op.intArith, Op.intBits]; done)
          | (refine ⟨_, he, yBool ?_⟩; simp [execOp, k1, k2, hg, binOp, Op.intCmp]; done)
          | (obtain ⟨hb, he⟩ := guardB_some he
             refine ⟨_, he, yInt ?_⟩
             have hb' : n ≠ 0 := by simpa using hb
             simp [execOp, k1, k2, hg, binOp, Op.intDiv, hb'])
    · rename_i m n
      have k1 := hx.str v1
      have k2 := hy.str v2
      have hg : ∀ op, (eqGuard op t x y (.string m) (.string n)).run P w = .ok () w := fun op => eqGuard_str op t x y _ _
      unfold strBin at he
      split at he <;> first
        | cases he
        | (refine ⟨_, he, yBool ?_⟩; simp [execOp, k1, k2, hg, binOp, Op.stringOp]; done)
        | skip
      obtain ⟨hb, he⟩ := guardB_some he
      refine ⟨_, he, yStr ?_⟩
      have hb' : m.size + n.size ≤ 9223372036854775807 := by simpa using hb
      have : ¬ (((m.size + n.size : Nat) : Int) > IntKind.i64.max) := by
        show ¬ (((m.size + n.size : Nat) : Int) > 9223372036854775807)
        omega
      simp only [execOp, k1, k2, Sem.run_bind, hg, binOp, Op.stringOp, this, Result.andThen_ok, if_false]
      rfl
    · rename_i m n
      have k1 := hx.bool v1
      have k2 := hy.bool v2
      have hg : ∀ op, (eqGuard op t x y (.bool m) (.bool n)).run P w = .ok () w := fun op => eqGuard_bool op t x y _ _
      have hq : ∀ {t}, E.τ t = some .bool → (Op.equal t (.bool m) (.bool n)).run P w = .ok (m == n) w := by
        intro t ht
        obtain ⟨d, u1, _, u3⟩ := tyOk_und (hE.ty _ _ ht)
        simp only at u3
        subst u3
        have : ∀ d, (Op.equalIn (d + 1) t (.bool m) (.bool n)).run P w = .ok (m == n) w := fun d => by simp [Op.equalIn, run_underlying u1]
        exact this 9999
      split at he
      · rename_i e0; refine ⟨_, he, yBool ?_⟩; simp [execOp, k1, k2, hg, binOp, hq e0]
      · rename_i e0; refine ⟨_, he, yBool ?_⟩; simp [execOp, k1, k2, hg, binOp, hq e0]
      · cases he
    · cases he
  · cases he

theorem q_convert (hE : EnvOk G P E) (h : Inv tg C st a w fps []) (s d : TypeId) (x : Operand) (he : evQ E (opd st.at) ⟨dst, .convert s d x, ty, pos, after, guard⟩ K = some r) :
    Aim tg C P st a w fps ⟨dst, .convert s d x, ty, pos, after, guard⟩ K r := by
  simp only [evQ] at he
  have hx := opd_ok h.rep h.refs x
  split at he
  · rename_i k0 k t1 f1 x1 k2 n es ed ecx e1
    have v1 : (opd st.at x).vc = some ⟨.int k2, n⟩ := by simp [RO.vc, ecx, e1]
    obtain ⟨d1, u1, _, u3⟩ := tyOk_und (hE.ty _ _ es)
    obtain ⟨d2, u4, _, u6⟩ := tyOk_und (hE.ty _ _ ed)
    simp only at u3 u6
    subst u3 u6
    refine ⟨_, he, yInt ?_⟩
    simp [execOp, hx.int v1, convert, run_underlying u1, run_underlying u4, Conv.intToInt]
  · rename_i t1 f1 x1 n es ed ecx e1
    have v1 : (opd st.at x).vc = some ⟨.str, n⟩ := by simp [RO.vc, ecx, e1]
    obtain ⟨d1, u1, _, u3⟩ := tyOk_und (hE.ty _ _ es)
    obtain ⟨d2, u4, _, u6⟩ := tyOk_und (hE.ty _ _ ed)
    simp only at u3 u6
    subst u3 u6
    refine ⟨_, he, yStr ?_⟩
    simp [execOp, hx.str v1, convert, run_underlying u1, run_underlying u4]
  · rename_i _ _ es ed
    split at he
    case h_2 => cases he
    rename_i ns hv
    obtain ⟨A, n, cc, hc, hn, _, hr⟩ := hx.sl hv
    obtain ⟨d1, u1, _, m, e', u3, u5, _⟩ := tyOk_und (hE.ty _ _ es)
    obtain ⟨d2, u4, _, u6⟩ := tyOk_und (hE.ty _ _ ed)
    obtain ⟨d3, u7, _, u8⟩ := tyOk_und u5
    simp only at u3 u6 u8
    subst u3 u6 u8
    refine ⟨_, he, yStr ?_⟩
    have key : (convert s d (a.eval x)).run P w = .ok (.string (bytesOf ns)) w := by
      rw [hc] at hr
      rw [hc, run_convert_bytes_string w s d e' A n cc u1 u7 u4]
      obtain ⟨A', n', c', e1, e2, _, _, hel⟩ := hr
      simp only [List.cons.injEq, Value.slice.injEq, and_true] at e1
      obtain ⟨rfl, rfl, rfl⟩ := e1
      cases ns with
      | nil =>
        subst hn
        cases A with
        | none => simp [Conv.bytesToString, bytesOf]
        | some ad =>
          have := run_bytesToString (P := P) w ad 0 cc [] rfl
          simpa [bytesOf] using this
      | cons n0 l =>
        obtain ⟨b, off, ds, rfl, _, _, hm0, _⟩ := hel 0 (by simp)
        have hmem : Mem w b off ((n0 :: l).map (Value.int .u8)) := by
          obtain ⟨ccs, T, fr, q1, q2⟩ := hm0
          refine ⟨ccs, T, fr, q1, fun j hj => ?_⟩
          have hj' : j < (n0 :: l).length := by simpa using hj
          obtain ⟨b', off', ds', e3, _, _, hm, hrep⟩ := hel j hj'
          simp at e3
          obtain ⟨rfl, rfl⟩ := e3
          obtain ⟨rfl, _⟩ := hrep
          obtain ⟨ccs', T', fr', q3, q4⟩ := hm
          rw [q1] at q3
          cases q3
          have := q4 0 (by simp)
          simp only [Ty.size, Nat.mul_one, Nat.add_zero, List.getElem_cons_zero] at this
          rw [List.getElem_map]
          exact this
        have hl := run_loadCells_mem (P := P) hmem
        rw [List.length_map] at hl
        rw [hn]
        exact run_bytesToString w _ _ _ _ hl
    simp [execOp, key]
  · cases he
end
end
end Go.Ev
/-
  The quiet operations are sound: places, loads, elements, cuts.
-/
namespace Go.Ev
section
variable {tg : Nat → Value} {G : GP} {C : Ctx G} {P : Program} {E : Env} {β : Type}
section
variable {st : St} {a : Act} {w : World} {fps : Nat → List Nat} {dst : Option Tmp} {ty : TypeId} {pos : String} {after : Array Edge} {guard : Option (Nat × Bool)} {K : AV → Option β} {r : β}

theorem beq_ty {a b : Ty} (h : Ty.beq a b = true) : a = b := Ty.eq_of_beq h

/-- A pointer's content. -/
theorem ROk.ptrV {w : World} {B : Nat → Prop} {st : St} {a : Nat → Value} {fps : Nat → List Nat} {o : RO} {c : Value} {t : Ty} {φ : Fl} {y : El (.ptr t)} (h : ROk tg w B st a fps o c) (hc : o.cp = .v (.ptr t) φ y) :
    ∃ b off ds, c = .pointer (some ⟨b, off, none⟩) ∧ B b ∧ ds.length = t.size ∧ Mem w b off ds ∧ Rep tg w B t .no y ds [] := by
  have h0 := h.cp
  rw [hc] at h0
  obtain ⟨cs, rfl, _, b, off, ds, rfl, h1, h2, h3, h4⟩ := h0
  exact ⟨b, off, ds, rfl, h1, h2, h3, h4⟩
theorem ROk.ptrBw {w : World} {B : Nat → Prop} {st : St} {a : Nat → Value} {fps : Nat → List Nat} {o : RO} {c : Value} {u : Nat} {t : Ty} {y : El (.ptr t)} (h : ROk tg w B st a fps o c) (hc : o.cp = .bw u (.ptr t) y) :
    ∃ b off ds, c = .pointer (some ⟨b, off, none⟩) ∧ (B b ∨ b ∈ fps u) ∧ ds.length = t.size ∧ Mem w b off ds ∧ Rep tg w (fun b => B b ∨ b ∈ fps u) t .no y ds [] := by
  have h0 := h.cp
  rw [hc] at h0
  obtain ⟨_, cs, rfl, _, b, off, ds, rfl, h1, h2, h3, h4⟩ := h0
  exact ⟨b, off, ds, rfl, h1, h2, h3, h4⟩

theorem q_nilCheck (h : Inv tg C st a w fps []) (x : Operand) (he : evQ E (opd st.at) ⟨dst, .nilCheck x, ty, pos, after, guard⟩ K = some r) : Aim tg C P st a w fps ⟨dst, .nilCheck x, ty, pos, after, guard⟩ K r := by
  simp only [evQ] at he
  have hx := opd_ok h.rep h.refs x
  have hc := hx.cp
  have hr := hx.refs
  have hrun : ∀ A, a.eval x = .pointer (some A) → (execOp a.eval ⟨dst, .nilCheck x, ty, pos, after, guard⟩).run P w = .ok (.value (a.eval x)) w := by
    intro A hA; simp [execOp, hA]
  split at he
  · rename_i s p e
    rw [e] at hc hr
    obtain ⟨_, g, t, φ, y, b, o, t', _, _, _, h4⟩ := hc
    exact ⟨_, he, .pure hr (by rw [← e]; exact hx.cp) (hrun _ h4)⟩
  · rename_i s p i e' y q e
    rw [e] at hc hr
    obtain ⟨_, o, t', _, r', g, φ, xs, b, off, n, cc, po, _, _, _, _, _, _, h7⟩ := hc
    exact ⟨_, he, .pure hr (by rw [← e]; exact hx.cp) (hrun _ h7)⟩
  · rename_i t φ y e
    obtain ⟨b, off, ds, h1, _⟩ := hx.ptrV e
    rw [e] at hr
    exact ⟨_, he, .pure hr (by rw [← e]; exact hx.cp) (hrun _ h1)⟩
  · rename_i s t y e
    obtain ⟨b, off, ds, h1, _⟩ := hx.ptrBw e
    rw [e] at hr
    exact ⟨_, he, .pure hr (by rw [← e]; exact hx.cp) (hrun _ h1)⟩
  · cases he

theorem run_fieldAt (hE : EnvOk G P E) {s : TypeId} {t u : Ty} {j o b off : Nat} (ht : E.τ s = some t) (hp : partOff (fieldPath j) t = some (o, u)) (hu : 0 < u.size) :
    (Instr.fieldAt s (.pointer (some ⟨b, off, none⟩)) j).run P w = .ok (.pointer (some ⟨b, off + o, none⟩)) w := by
  obtain ⟨m, fs, f, h1, h2, h3, h4⟩ := tyOk_field (hE.ty _ _ ht) hp
  obtain ⟨i, k1, k2, k3⟩ := tyOk_info h4
  have : ¬ u.size = 0 := by omega
  simp [Instr.fieldAt, run_underlying h1, h2, Instr.sureAddr, fieldPlace, sizeOf, typeInfo, k1, k2, this, addr_add, h3]

theorem getP_no : ∀ {p : List Bool} {t : Ty} {x : El t} {r : Res}, getP p t .no x = some r → r.φ = .no
  | [], t, x, r, h => by simp [getP] at h; subst h; rfl
  | true :: p, .prod a b, x, r, h => getP_no (t := a) h
  | false :: p, .prod a b, x, r, h => getP_no (t := b) h
  | c :: p, .int _, _, _, h => by cases c <;> simp [getP] at h
  | c :: p, .bool, _, _, h => by cases c <;> simp [getP] at h
  | c :: p, .fnu, _, _, h => by cases c <;> simp [getP] at h
  | c :: p, .str, _, _, h => by cases c <;> simp [getP] at h
  | c :: p, .sl _, _, _, h => by cases c <;> simp [getP] at h
  | c :: p, .unit, _, _, h => by cases c <;> simp [getP] at h
  | c :: p, .ptr _, _, _, h => by cases c <;> simp [getP] at h
  | c :: p, .fn _ _, _, _, h => by cases c <;> simp [getP] at h

theorem Mem.sub {w : World} {b off : Nat} {d1 dm d3 : List Value} (h : Mem w b off (d1 ++ dm ++ d3)) : Mem w b (off + d1.length) dm := by
  obtain ⟨ccs, T, fr, h1, h2⟩ := h
  refine ⟨ccs, T, fr, h1, fun j hj => ?_⟩
  have := h2 (d1.length + j) (by simp; omega)
  rw [← Nat.add_assoc] at this
  rw [this]
  congr 1
  rw [List.getElem_of_eq (List.append_assoc d1 dm d3), List.getElem_append_right (by omega)]
  simp only [Nat.add_sub_cancel_left]
  rw [List.getElem_append_left hj]

theorem q_fieldAddr (hE : EnvOk G P E) (h : Inv tg C st a w fps []) (s : TypeId) (x : Operand) (j : Nat) (he : evQ E (opd st.at) ⟨dst, .fieldAddr s x j, ty, pos, after, guard⟩ K = some r) :
    Aim tg C P st a w fps ⟨dst, .fieldAddr s x j, ty, pos, after, guard⟩ K r := by
  simp only [evQ] at he
  have hx := opd_ok h.rep h.refs x
  have hc := hx.cp
  have hr := hx.refs
  split at he
  case h_2 => cases he
  rename_i t ht
  split at he
  case h_2 => cases he
  rename_i o u hp
  split at he
  case h_2 => cases he
  rename_i hu
  have hu' : 0 < u.size := by simpa using hu
  have hrun : ∀ b off, a.eval x = .pointer (some ⟨b, off, none⟩) → (execOp a.eval ⟨dst, .fieldAddr s x j, ty, pos, after, guard⟩).run P w = .ok (.value (.pointer (some ⟨b, off + o, none⟩))) w := by
    intro b off hA
    simp [execOp, hA, run_fieldAt hE ht hp hu']
  split at he
  · rename_i v p e
    split at he
    case h_2 => cases he
    rename_i t1 hty
    split at he
    case h_2 => cases he
    rename_i hb
    obtain rfl := beq_ty hb
    rw [e] at hc hr
    obtain ⟨_, g, t0, φ, y, b, o1, t1, h1, h2, h3, h4⟩ := hc
    obtain ⟨r0, o2, m1, m2⟩ := (opd_ty hty).1 v p e
    simp [ownerAt, h1] at m1
    subst m1
    rw [h3] at m2
    simp at m2
    obtain ⟨rfl, rfl⟩ := m2
    refine ⟨_, he, .pure (by simpa [refsOf] using hr) ⟨rfl, g, t0, φ, y, b, o1 + o, u, h1, h2, ?_, rfl⟩ (hrun _ _ h4)⟩
    rw [partOff_append, h3]
    simp [hp]
  · rename_i v p i e' y q e
    split at he
    case h_2 => cases he
    rename_i t1 hty
    split at he
    case h_2 => cases he
    rename_i hb
    obtain rfl := beq_ty hb
    rw [e] at hc hr
    obtain ⟨_, o1, t1, k0, r', g, φ, xs, b, off, n, cc, po, k1, k2, k3, k4, k5, k6, k7⟩ := hc
    obtain ⟨o2, m2⟩ := (opd_ty hty).2 v p i e' y q e
    rw [k0] at m2
    simp at m2
    obtain ⟨rfl, rfl⟩ := m2
    refine ⟨_, he, .pure (by simpa [refsOf] using hr) ⟨rfl, o1 + o, u, ?_, r', g, φ, xs, b, off, n, cc, po, k1, k2, k3, k4, k5, k6, ?_⟩ (hrun _ _ k7)⟩
    · rw [partOff_append, k0]
      simp [hp]
    · simp [Nat.add_assoc]
  · rename_i t1 φ y e
    split at he
    case h_2 => cases he
    rename_i hb
    obtain rfl := beq_ty hb
    split at he
    case h_2 => cases he
    rename_i r1 hg
    obtain ⟨b, off, ds, h1, h2, h3, h4, h5⟩ := hx.ptrV e
    obtain ⟨c1, cm, c3, f1, fm, f3, rfl, hfp, hoff, hm, _, _⟩ := h5.part _ hg
    rw [hp] at hoff
    simp at hoff
    obtain ⟨rfl, rfl⟩ := hoff
    have hf := getP_no hg
    rw [hf] at hm
    have e0 : fm = [] := by simp at hfp; exact hfp.2.1
    subst e0
    exact ⟨_, he, .pure (by simp [refsOf]) ⟨[.pointer (some ⟨b, off + c1.length, none⟩)], rfl, rfl, b, _, cm, rfl, h2, hm.len, h4.sub, hm⟩ (hrun _ _ h1)⟩
  · rename_i v t1 y e
    split at he
    case h_2 => cases he
    rename_i hb
    obtain rfl := beq_ty hb
    split at he
    case h_2 => cases he
    rename_i r1 hg
    obtain ⟨b, off, ds, h1, h2, h3, h4, h5⟩ := hx.ptrBw e
    obtain ⟨c1, cm, c3, f1, fm, f3, rfl, hfp, hoff, hm, _, _⟩ := h5.part _ hg
    rw [hp] at hoff
    simp at hoff
    obtain ⟨rfl, rfl⟩ := hoff
    have hf := getP_no hg
    rw [hf] at hm
    have e0 : fm = [] := by simp at hfp; exact hfp.2.1
    subst e0
    rw [e] at hr
    exact ⟨_, he, .pure (by simpa [refsOf] using hr) ⟨rfl, [.pointer (some ⟨b, off + c1.length, none⟩)], rfl, rfl, b, _, cm, rfl, h2, hm.len, h4.sub, hm⟩ (hrun _ _ h1)⟩
  · cases he

/-- A content lent. -/
theorem lent_rep {w : World} {B : Nat → Prop} {st : St} {a : Nat → Value} {fps : Nat → List Nat} {ow : Bool} {s : Nat} {t : Ty} {x : El t} {cs : List Value} (h : Rep tg w (fun b => B b ∨ (ow = true ∧ b ∈ fps s)) t .no x cs []) :
    RepAV tg w B st a fps (lent ow s t x) (mkVal t cs) [] := by
  unfold lent
  cases ow with
  | false => exact ⟨cs, rfl, h.imp fun b hb => hb.resolve_right (by simp)⟩
  | true =>
    cases hf : t.flat with
    | true => exact ⟨cs, rfl, (h.flat hf).1⟩
    | false => exact ⟨rfl, cs, rfl, h.imp fun b hb => hb.imp id And.right⟩
theorem lent_refs {ow : Bool} {s : Nat} {t : Ty} {x : El t} {u : Nat} (h : u ∈ refsOf (lent ow s t x)) : u = s ∧ ow = true := by
  unfold lent at h
  cases ow <;> cases hf : t.flat <;> simp [hf, refsOf] at h
  exact ⟨h, rfl⟩

theorem run_part {n : Nat} {id : TypeId} {u : Ty} (ht : tyOk P n id u = true) (c1 cm c3 : List Value) (hl : cm.length = u.size) :
    (part id (c1 ++ cm ++ c3).toArray c1.length).run P w = .ok (mkVal u cm) w := by
  obtain ⟨i, k1, k2, k3⟩ := tyOk_info ht
  simp only [part, Sem.run_bind, tyOk_agg ht, Result.andThen_ok]
  cases ha : u.agg with
  | true =>
    simp [sizeOf, typeInfo, k1, k2, mkVal, ha]
    rw [← hl, List.take_left]
  | false =>
    have hl1 : cm.length = 1 := by rw [hl, size_one ha]
    obtain ⟨v, rfl⟩ := List.length_eq_one_iff.1 hl1
    simp [mkVal, ha]

theorem run_field (hE : EnvOk G P E) {s : TypeId} {t : Ty} {u : Ty} {j : Nat} (ht : E.τ s = some t) {c1 cm c3 : List Value} (hp : partOff (fieldPath j) t = some (c1.length, u)) (hl : cm.length = u.size) :
    (Instr.field s (.agg (c1 ++ cm ++ c3).toArray) j).run P w = .ok (mkVal u cm) w := by
  obtain ⟨m, fs, f, h1, h2, h3, h4⟩ := tyOk_field (hE.ty _ _ ht) hp
  have := run_part (P := P) (w := w) h4 c1 cm c3 hl
  simp only [Instr.field, Sem.run_bind, run_underlying h1, Result.andThen_ok, h2, asAgg, Sem.run_pure, h3, this]

theorem agg_of_part {t u : Ty} {j o : Nat} (h : partOff (fieldPath j) t = some (o, u)) : t.agg = true := by
  cases t <;> first | rfl | (cases j <;> simp [fieldPath, partOff] at h)

theorem q_field (hE : EnvOk G P E) (h : Inv tg C st a w fps []) (s : TypeId) (x : Operand) (j : Nat) (he : evQ E (opd st.at) ⟨dst, .field s x j, ty, pos, after, guard⟩ K = some r) :
    Aim tg C P st a w fps ⟨dst, .field s x j, ty, pos, after, guard⟩ K r := by
  simp only [evQ] at he
  have hx := opd_ok h.rep h.refs x
  have hc := hx.cp
  have hr := hx.refs
  -- the part of a content, and its run
  have main : ∀ (c : Ct) (st0 : Ty) (r1 : Res) (B : Nat → Prop) (cs : List Value), E.τ s = some st0 → Ty.beq st0 c.t = true → getP (fieldPath j) c.t .no c.x = some r1 →
      a.eval x = mkVal c.t cs → Rep tg w B c.t .no c.x cs [] → ∃ cm c1 c3, cs = c1 ++ cm ++ c3 ∧ partOff (fieldPath j) c.t = some (c1.length, r1.t) ∧ Rep tg w B r1.t .no r1.x cm [] ∧
        (execOp a.eval ⟨dst, .field s x j, ty, pos, after, guard⟩).run P w = .ok (.value (mkVal r1.t cm)) w := by
    intro c st0 r1 B cs es hb hg hv hrp
    obtain rfl := beq_ty hb
    obtain ⟨c1, cm, c3, f1, fm, f3, rfl, hfp, hoff, hm, _, _⟩ := hrp.part _ hg
    have hf := getP_no hg
    rw [hf] at hm
    have e0 : fm = [] := by simp at hfp; exact hfp.2.1
    subst e0
    refine ⟨cm, c1, c3, rfl, hoff, hm, ?_⟩
    have hrun := run_field (w := w) hE es (c3 := c3) hoff hm.len
    rw [mkVal, agg_of_part hoff] at hv
    simp only [if_true] at hv
    simp only [execOp, hv, Sem.run_bind, hrun]
    rfl
  split at he
  · rename_i st0 t1 f1 x1 c es ecx ec
    split at he
    case h_2 => cases he
    rename_i hb
    split at he
    case h_2 => cases he
    rename_i r1 hg
    have hvc : (opd st.at x).vc = some c := by simp [RO.vc, ecx, ec]
    have hh := hx.val (by rw [ecx]; rfl) c ec
    obtain ⟨cs, hv, hrp⟩ := hh
    have how : (opd st.at x).ow = false := opd_v_ow ecx
    have hrp' : Rep tg w (permB C w fps []) c.t .no c.x cs [] := hrp.imp fun b hb => hb.resolve_right (by simp [how])
    obtain ⟨cm, c1, c3, _, _, k1, k2⟩ := main c st0 r1 _ cs es hb hg hv hrp'
    exact ⟨_, he, .scalar k1 k2⟩
  · rename_i st0 u t1 x1 c es ecx ec
    split at he
    case h_2 => cases he
    rename_i hb
    split at he
    case h_2 => cases he
    rename_i r1 hg
    obtain ⟨cs, hv, hrp⟩ := hx.val (by rw [ecx]; rfl) c ec
    rw [ecx] at hr
    have hat := hx.at_ u (by rw [ecx]; simp [refsOf]) (by rw [ecx]; rfl)
    have hrp' : Rep tg w (fun b => permB C w fps [] b ∨ (true = true ∧ b ∈ fps u)) c.t .no c.x cs [] := hrp.imp fun b hb => hb.imp id fun hb => ⟨rfl, by
      rcases hb.2 with hb | ⟨hb, _⟩
      · rw [hat]; exact hb
      · rw [ecx] at hb; simp [isFn] at hb⟩
    obtain ⟨cm, c1, c3, _, _, k1, k2⟩ := main c st0 r1 _ cs es hb hg hv hrp'
    exact ⟨_, he, .pure (fun v hv => by rw [(lent_refs hv).1]; exact hr u (by simp [refsOf])) (lent_rep k1) k2⟩
  · rename_i st0 u p c es ecx ec
    split at he
    case h_2 => cases he
    rename_i hb
    split at he
    case h_2 => cases he
    rename_i r1 hg
    obtain ⟨cs, hv, hrp⟩ := hx.val (by rw [ecx]; rfl) c ec
    obtain ⟨cm, c1, c3, hcs, hoff, k1, k2⟩ := main c st0 r1 _ cs es hb hg hv hrp
    split at he
    · rename_i hf
      exact ⟨_, he, .scalar (k1.flat hf).1 k2⟩
    · rw [ecx] at hc hr
      obtain ⟨_, r0, o0, t0, m1, m2, m3⟩ := hc
      obtain ⟨r0', o0', n1, n2⟩ := opd_al ecx ec
      rw [m1] at n1; simp at n1; subst n1
      rw [m2] at n2; simp at n2
      obtain ⟨rfl, rfl⟩ := n2
      have hag := agg_of_part hoff
      rw [hv] at m3
      simp only [mkVal, hag, if_true, Value.agg.injEq] at m3
      have hcs2 : cs = List.take c.t.size (List.drop o0 (ownCells w (st.at u) (a.tmps.getD u undef))) := by
        have := congrArg Array.toList m3
        simpa using this
      refine ⟨_, he, .pure (by simpa [refsOf] using hr) ⟨rfl, r0, o0 + c1.length, r1.t, m1, by rw [partOff_append, m2]; simp [hoff], ?_⟩ k2⟩
      congr 1
      rw [← List.drop_drop]
      have hle := partOff_apart.partOff_le hoff
      have : cm = (cs.drop c1.length).take r1.t.size := by
        rw [hcs, List.append_assoc, List.drop_left, ← k1.len, List.take_left]
      rw [this, hcs2, List.drop_take, List.take_take]
      congr 1
      omega
  · cases he
end
end
end Go.Ev
/-
  The quiet operations are sound: loads, elements, cuts, new memory.
-/
namespace Go.Ev
section
variable {tg : Nat → Value} {G : GP} {C : Ctx G} {P : Program} {E : Env} {β : Type}
section
variable {st : St} {a : Act} {w : World} {fps : Nat → List Nat} {dst : Option Tmp} {ty : TypeId} {pos : String} {after : Array Edge} {guard : Option (Nat × Bool)} {K : AV → Option β} {r : β}

theorem Mem.eq {w : World} {b o : Nat} {cs ds : List Value} {T : TypeId} {fr : Nat × Nat} (h : w.heap[b]? = some (.cells cs.toArray T fr)) (hm : Mem w b o ds) : ds = (cs.drop o).take ds.length := by
  obtain ⟨ccs, T', fr', h1, h2⟩ := hm
  rw [h] at h1
  simp at h1
  obtain ⟨rfl, _, _⟩ := h1
  apply List.ext_getElem?
  intro j
  by_cases hj : j < ds.length
  · have := h2 j hj
    simp only [List.getElem?_toArray] at this
    rw [List.getElem?_take_of_lt hj, List.getElem?_drop, this, List.getElem?_eq_getElem hj]
  · rw [List.getElem?_eq_none (by omega), List.getElem?_eq_none (by simp; omega)]

theorem run_load_op (hE : EnvOk G P E) {t : TypeId} {u : Ty} {x : Operand} {b off : Nat} {ds : List Value} (ht : E.τ t = some u) (hv : a.eval x = .pointer (some ⟨b, off, none⟩)) (hl : ds.length = u.size) (hm : Mem w b off ds) :
    (execOp a.eval ⟨dst, .load t x, ty, pos, after, guard⟩).run P w = .ok (.value (mkVal u ds)) w := by
  simp [execOp, hv, Instr.loadAt, Instr.sureAddr, run_loadVar_mem (hE.ty _ _ ht) hl hm]

theorem q_load (hE : EnvOk G P E) (h : Inv tg C st a w fps []) (t : TypeId) (x : Operand) (he : evQ E (opd st.at) ⟨dst, .load t x, ty, pos, after, guard⟩ K = some r) :
    Aim tg C P st a w fps ⟨dst, .load t x, ty, pos, after, guard⟩ K r := by
  simp only [evQ] at he
  have hx := opd_ok h.rep h.refs x
  have hc := hx.cp
  have hr := hx.refs
  split at he
  · rename_i u s p c es ecx ec
    split at he
    case h_2 => cases he
    rename_i hb
    obtain rfl := beq_ty hb
    obtain ⟨b, off, ds, h1, h2, h3, h4⟩ := hx.ptr (by rw [ecx]; rfl) c ec
    have hrun := run_load_op (dst := dst) (ty := ty) (pos := pos) (after := after) (guard := guard) hE es h1 h4.len h3
    split at he
    · rename_i how
      obtain ⟨r0, o, k1, k2⟩ := (opd_ty (opd_ct_ty (by rw [ecx]; rfl) ec)).1 s p ecx
      rw [ecx] at hc hr
      obtain ⟨_, g, t0, φ, y, b', o', t', m1, m2, m3, m4⟩ := hc
      have hu := h.rep s
      rw [m1] at hu
      obtain ⟨b2, cs, T, fp', n1, n2, n3, n4, n5⟩ := hu
      have m2' : a.tmps.getD s undef = .pointer (some ⟨b', 0, none⟩) := m2
      rw [m2'] at n1; simp at n1; subst n1
      rw [m4] at h1; simp at h1
      obtain ⟨rfl, rfl⟩ := h1
      simp [ownerAt, m1] at k1
      subst k1
      rw [k2] at m3; simp at m3
      obtain ⟨rfl, rfl⟩ := m3
      have hoc : ownCells w (st.at s) (a.tmps.getD s undef) = cs := by
        rw [m1, m2']; simp [ownCells, n2]
      refine ⟨_, he, .pure (by simpa [refsOf] using hr) ⟨rfl, ⟨t0, φ, y⟩, o, c.t, by simp [ownerAt, m1], k2, ?_⟩ hrun⟩
      rw [hoc, ← h4.len, ← Mem.eq n2 h3]
    · rename_i how
      refine ⟨_, he, .scalar (h4.imp fun b hb => hb.resolve_right (by simp [how])) hrun⟩
  · rename_i u s p i e' y q c es ecx ec
    split at he
    case h_2 => cases he
    rename_i hb
    obtain rfl := beq_ty hb
    obtain ⟨b, off, ds, h1, h2, h3, h4⟩ := hx.ptr (by rw [ecx]; rfl) c ec
    have hrun := run_load_op (dst := dst) (ty := ty) (pos := pos) (after := after) (guard := guard) hE es h1 h4.len h3
    have hat := hx.at_ s (by rw [ecx]; simp [refsOf]) (by rw [ecx]; rfl)
    obtain ⟨o, k2⟩ := (opd_ty (opd_ct_ty (by rw [ecx]; rfl) ec)).2 s p i e' y q ecx
    rw [ecx] at hr hc
    obtain ⟨_, o', t', k3, k4⟩ := hc
    rw [k2] at k3
    simp at k3
    obtain ⟨rfl, rfl⟩ := k3
    split at he
    · rename_i how
      refine ⟨_, he, .pure (fun v hv => hr v (by simpa [refsOf] using hv)) ⟨rfl, ds, rfl, h4.imp fun b hb => hb.imp id fun hb => ?_, o, b, off, k2, h1 ▸ k4, h3, by rw [hat]; exact h2⟩ hrun⟩
      rcases hb.2 with hb | ⟨hb, _⟩
      · rw [hat]; exact hb
      · rw [ecx] at hb; simp [isFn] at hb
    · rename_i how
      refine ⟨_, he, .scalar ?_ hrun⟩
      cases hof : (opd st.at x).ow with
      | false => exact h4.imp fun b hb => hb.resolve_right (by simp [hof])
      | true =>
        have hff : c.t.flat = true := by simpa [hof] using how
        exact (h4.flat hff).1
  · rename_i u t1 f1 x1 t' y es ecx ec
    split at he
    case h_2 => cases he
    rename_i hb
    obtain rfl := beq_ty hb
    obtain ⟨cs, hv, hrp⟩ := hx.val (by rw [ecx]; rfl) _ ec
    have how : (opd st.at x).ow = false := opd_v_ow ecx
    obtain ⟨_, b, off, ds, rfl, h2, h3, h4, h5⟩ := hrp
    have hrun := run_load_op (dst := dst) (ty := ty) (pos := pos) (after := after) (guard := guard) hE es (by rw [hv]; rfl) h3 h4
    exact ⟨_, he, .scalar (h5.imp fun b hb => hb.resolve_right (by simp [how])) hrun⟩
  · rename_i u s t1 x1 t' y es ecx ec
    split at he
    case h_2 => cases he
    rename_i hb
    obtain rfl := beq_ty hb
    obtain ⟨cs, hv, hrp⟩ := hx.val (by rw [ecx]; rfl) _ ec
    obtain ⟨_, b, off, ds, rfl, h2, h3, h4, h5⟩ := hrp
    have hrun := run_load_op (dst := dst) (ty := ty) (pos := pos) (after := after) (guard := guard) hE es (by rw [hv]; rfl) h3 h4
    have hat := hx.at_ s (by rw [ecx]; simp [refsOf]) (by rw [ecx]; rfl)
    rw [ecx] at hr
    refine ⟨_, he, .pure (fun v hv => by rw [(lent_refs hv).1]; exact hr s (by simp [refsOf])) (lent_rep (h5.imp fun b hb => hb.imp id fun hb => ⟨rfl, ?_⟩)) hrun⟩
    rcases hb.2 with hb | ⟨hb, _⟩
    · rw [hat]; exact hb
    · rw [ecx] at hb; simp [isFn] at hb
  · cases he

theorem asInt_val {o : RO} {c : Value} {B : Nat → Prop} {k : IntKind} {n : Int} (h : ROk tg w B st (fun s => a.tmps.getD s undef) fps o c) (hi : asInt o = some (k, n)) : c = .int k n := by
  unfold asInt at hi
  split at hi
  · rename_i e
    simp at hi
    obtain ⟨rfl, rfl⟩ := hi
    exact h.int e
  · cases hi

theorem rdAt_some {α : Type} {xs : List α} {n : Int} {y : α} (h : rdAt xs n = some y) : 0 ≤ n ∧ ∃ hl : n.toNat < xs.length, xs[n.toNat] = y := by
  unfold rdAt at h
  split at h
  · rename_i hn
    exact ⟨hn, List.getElem?_eq_some_iff.1 h⟩
  · cases h

theorem run_indexAt (hE : EnvOk G P E) {t : TypeId} {e : Ty} {k : IntKind} {n : Int} {b off len cap : Nat} (ht : E.τ t = some (.sl e)) (h0 : 0 ≤ n) (h1 : n.toNat < len) :
    (Instr.indexAt t (.slice (some ⟨b, off, none⟩) len cap) (.int k n)).run P w = .ok (.pointer (some ⟨b, off + n.toNat * e.size, none⟩)) w := by
  obtain ⟨m, e', u1, u2, u3⟩ := tyOk_sl (hE.ty _ _ ht)
  obtain ⟨i, k1, k2, k3⟩ := tyOk_info u2
  have : n < (len : Int) := by omega
  simp [Instr.indexAt, asIntOf, run_underlying u1, sizeOf, typeInfo, k1, k2, h0, this, addr_add]

theorem q_indexAddr (hE : EnvOk G P E) (h : Inv tg C st a w fps []) (t : TypeId) (x i : Operand) (he : evQ E (opd st.at) ⟨dst, .indexAddr t x i, ty, pos, after, guard⟩ K = some r) :
    Aim tg C P st a w fps ⟨dst, .indexAddr t x i, ty, pos, after, guard⟩ K r := by
  simp only [evQ] at he
  have hx := opd_ok h.rep h.refs x
  have hi := opd_ok h.rep h.refs i
  have hc := hx.cp
  have hr := hx.refs
  have hrun : ∀ {e b off len cap k n}, E.τ t = some (.sl e) → a.eval x = .slice (some ⟨b, off, none⟩) len cap → a.eval i = .int k n → 0 ≤ n → n.toNat < len →
      (execOp a.eval ⟨dst, .indexAddr t x i, ty, pos, after, guard⟩).run P w = .ok (.value (.pointer (some ⟨b, off + n.toNat * e.size, none⟩))) w := by
    intro e b off len cap k n e1 e2 e3 e4 e5
    simp [execOp, e2, e3, run_indexAt hE e1 e4 e5]
  split at he
  · rename_i u t1 f1 x1 e xs k n es ecx ec ei
    split at he
    case h_2 => cases he
    rename_i hb
    obtain rfl := beq_ty hb
    obtain ⟨y, hy, he⟩ := obind_some he
    obtain ⟨h0, hl, hxy⟩ := rdAt_some hy
    obtain ⟨cs, hv, hrp⟩ := hx.val (by rw [ecx]; rfl) _ ec
    have how : (opd st.at x).ow = false := opd_v_ow ecx
    obtain ⟨A, n', c', rfl, k1, k2, _, k4⟩ := hrp
    obtain ⟨b, off, ds, rfl, m1, m2, m3, m4⟩ := k4 n.toNat hl
    rw [hxy] at m4
    have m1' := m1.resolve_right (by simp [how])
    refine ⟨_, he, .scalar (cs := [.pointer (some ⟨b, off + n.toNat * e.size, none⟩)]) ⟨rfl, b, _, ds, rfl, m1', m2, m3, m4.imp fun b hb => hb.resolve_right (by simp [how])⟩ ?_⟩
    exact hrun es hv (asInt_val hi ei) h0 (by rw [k1]; exact hl)
  · rename_i u s t1 x1 e xs k n es ecx ec ei
    split at he
    case h_2 => cases he
    rename_i hb
    obtain rfl := beq_ty hb
    obtain ⟨y, hy, he⟩ := obind_some he
    obtain ⟨h0, hl, hxy⟩ := rdAt_some hy
    obtain ⟨cs, hv, hrp⟩ := hx.val (by rw [ecx]; rfl) _ ec
    have hat := hx.at_ s (by rw [ecx]; simp [refsOf]) (by rw [ecx]; rfl)
    have hAB : ∀ b, AB (permB C w fps []) fps (opd st.at x) b → permB C w fps [] b ∨ b ∈ fps s := fun b hb => hb.imp id fun hb => by
      rcases hb.2 with hb | ⟨hb, _⟩
      · rw [hat]; exact hb
      · rw [ecx] at hb; simp [isFn] at hb
    obtain ⟨A, n', c', rfl, k1, k2, _, k4⟩ := hrp
    obtain ⟨b, off, ds, rfl, m1, m2, m3, m4⟩ := k4 n.toNat hl
    rw [hxy] at m4
    rw [ecx] at hr
    refine ⟨_, he, .pure (by simpa [refsOf] using hr) ⟨rfl, [.pointer (some ⟨b, off + n.toNat * e.size, none⟩)], rfl, rfl, b, _, ds, rfl, hAB _ m1, m2, m3, m4.imp hAB⟩ ?_⟩
    exact hrun es hv (asInt_val hi ei) h0 (by rw [k1]; exact hl)
  · rename_i u s p e xs k n es ecx ec ei
    split at he
    case h_2 => cases he
    rename_i hb
    obtain rfl := beq_ty hb
    split at he
    · rename_i how
      obtain ⟨y, hy, he⟩ := obind_some he
      obtain ⟨h0, hl, hxy⟩ := rdAt_some hy
      obtain ⟨r0, φ', n1, m2, hown'⟩ := opd_al_get ecx ec
      rw [how] at hown'
      obtain ⟨g, φ, rfl⟩ : ∃ g φ, φ' = .own g φ := by
        cases φ' <;> simp [hasOwn] at hown'
        exact ⟨_, _, rfl⟩
      obtain ⟨o, n2⟩ := getP_partOff m2
      rw [ecx] at hc hr
      obtain ⟨_, r2, o2, t2, q1, q2, q3⟩ := hc
      rw [n1] at q1; simp at q1; subst q1
      rw [n2] at q2; simp at q2
      obtain ⟨rfl, rfl⟩ := q2
      -- the owner's slice
      obtain ⟨fpc, hrep, hown⟩ := owner_rep (h.rep s) n1
      obtain ⟨c1, cm, c3, f1, fm, f3, hcs, hfp, hoff, hm, hg, hset⟩ := hrep.part p m2
      rw [n2] at hoff; simp at hoff; subst hoff
      obtain ⟨A, n', c', rfl, z1, z2, z3, z4⟩ := hm
      rcases z4 with ⟨_, hnil, _⟩ | ⟨b, off, ccs, T, fps', rfl, z5, z6, z7, z8, z9⟩
      · rw [show xs = [] from hnil] at hl; simp at hl
      · have hv : a.eval x = .slice (some ⟨b, off, none⟩) n' c' := by
          rw [q3, hcs]
          simp [mkVal, Ty.agg, Ty.size]
        refine ⟨_, he, .pure (by simpa [refsOf] using hr) ⟨rfl, 0, e, rfl, r0, g, φ, xs, b, off, n', c', c1.length, n1, m2, h0, by rw [List.getElem?_eq_getElem hl, hxy], n2, ?_, by simp⟩ (hrun es hv (asInt_val hi ei) h0 (by rw [z1]; exact hl))⟩
        rw [hcs]
        simp
    · rename_i how
      obtain ⟨y, hy, he⟩ := obind_some he
      obtain ⟨h0, hl, hxy⟩ := rdAt_some hy
      obtain ⟨cs, hv, hrp⟩ := hx.val (by rw [ecx]; rfl) _ ec
      obtain ⟨A, n', c', rfl, k1, k2, _, k4⟩ := hrp
      obtain ⟨b, off, ds, rfl, m1, m2, m3, m4⟩ := k4 n.toNat hl
      rw [hxy] at m4
      have m1' := m1.resolve_right (by simp [how])
      refine ⟨_, he, .scalar (cs := [.pointer (some ⟨b, off + n.toNat * e.size, none⟩)]) ⟨rfl, b, _, ds, rfl, m1', m2, m3, m4.imp fun b hb => hb.resolve_right (by simp [how])⟩ ?_⟩
      exact hrun es hv (asInt_val hi ei) h0 (by rw [k1]; exact hl)
  · cases he
end
end
end Go.Ev
/-
  The quiet operations are sound: strings, cuts, results, variables.
-/
namespace Go.Ev
section
variable {tg : Nat → Value} {G : GP} {C : Ctx G} {P : Program} {E : Env} {β : Type}
section
variable {st : St} {a : Act} {w : World} {fps : Nat → List Nat} {dst : Option Tmp} {ty : TypeId} {pos : String} {after : Array Edge} {guard : Option (Nat × Bool)} {K : AV → Option β} {r : β}

theorem btAt_some {s : ByteArray} {n : Int} {y : Int} (h : btAt s n = some y) : 0 ≤ n ∧ ∃ b, s[n.toNat]? = some b ∧ y = (b.toNat : Int) := by
  unfold btAt at h
  split at h
  · rename_i hn
    cases hb : s.data.toList[n.toNat]? with
    | none => rw [hb] at h; simp at h
    | some b =>
      rw [hb] at h
      simp at h
      refine ⟨hn, b, ?_, h.symm⟩
      simp only [Array.getElem?_toList] at hb
      exact hb
  · cases h

theorem q_index (hE : EnvOk G P E) (h : Inv tg C st a w fps []) (t : TypeId) (x i : Operand) (he : evQ E (opd st.at) ⟨dst, .index t x i, ty, pos, after, guard⟩ K = some r) :
    Aim tg C P st a w fps ⟨dst, .index t x i, ty, pos, after, guard⟩ K r := by
  simp only [evQ] at he
  have hx := opd_ok h.rep h.refs x
  have hi := opd_ok h.rep h.refs i
  split at he
  · rename_i s k n es ec ei
    obtain ⟨y, hy, he⟩ := obind_some he
    obtain ⟨h0, b, hb, rfl⟩ := btAt_some hy
    obtain ⟨d, u1, _, u3⟩ := tyOk_und (hE.ty _ _ es)
    simp only at u3
    subst u3
    refine ⟨_, he, yInt ?_⟩
    simp [execOp, hx.str ec, asInt_val hi ei, Instr.index, asIntOf, run_underlying u1, h0, hb]
  · cases he

theorem optInt_run {o : Option Operand} {v : Option Int} (h : Inv tg C st a w fps []) (ho : optInt (opd st.at) o = some v) : ∃ vs : Option Value, o.map a.eval = vs ∧ (v = none ∧ vs = none ∨ ∃ n k, v = some n ∧ vs = some (.int k n)) := by
  cases o with
  | none => simp [optInt] at ho; subst ho; exact ⟨none, rfl, .inl ⟨rfl, rfl⟩⟩
  | some x =>
    simp only [optInt] at ho
    split at ho
    · rename_i k n e
      simp at ho
      subst ho
      exact ⟨_, rfl, .inr ⟨n, k, rfl, congrArg some (asInt_val (opd_ok h.rep h.refs x) e)⟩⟩
    · cases ho

theorem cutTests_some {lo hi : Option Int} {n : Nat} {K : Int → Int → Option β} {r : β} (h : cutTests lo hi n K = some r) :
    0 ≤ lo.getD 0 ∧ lo.getD 0 ≤ hi.getD n ∧ hi.getD n ≤ n ∧ K (lo.getD 0) (hi.getD n) = some r := by
  unfold cutTests at h
  obtain ⟨h1, h⟩ := guardB_some h
  obtain ⟨h2, h⟩ := guardB_some h
  obtain ⟨h3, h⟩ := guardB_some h
  refine ⟨?_, ?_, ?_, h⟩
  · cases lo with
    | none => simp
    | some l => simpa using h1
  · cases lo <;> cases hi <;> simp at h2 ⊢ <;> omega
  · cases hi with
    | none => simp
    | some l => simpa using h3

theorem run_bounds {isS : Bool} {len cap : Nat} {lo hi : Option Int} {vl vh : Option Value} (hl : lo = none ∧ vl = none ∨ ∃ n k, lo = some n ∧ vl = some (.int k n)) (hh : hi = none ∧ vh = none ∨ ∃ n k, hi = some n ∧ vh = some (.int k n))
    (h1 : 0 ≤ lo.getD 0) (h2 : lo.getD 0 ≤ hi.getD len) (h3 : hi.getD len ≤ len) (hc : len ≤ cap) :
    (Instr.sliceBounds isS len cap vl vh none).run P w = .ok ((lo.getD 0).toNat, (hi.getD len).toNat, cap) w := by
  rcases hl with ⟨rfl, rfl⟩ | ⟨l, k, rfl, rfl⟩ <;> rcases hh with ⟨rfl, rfl⟩ | ⟨u, k', rfl, rfl⟩ <;> simp only [Option.getD] at h1 h2 h3 ⊢
  · simp [Instr.sliceBounds]
  · have a1 : 0 ≤ u := h2
    have a2 : u ≤ (cap : Int) := by omega
    simp [Instr.sliceBounds, Instr.sliceBound, asIntOf, a1, a2]
  · simp [Instr.sliceBounds, Instr.sliceBound, asIntOf, h1, h2]
  · have a1 : 0 ≤ u := by omega
    have a2 : u ≤ (cap : Int) := by omega
    have a3 : l ≤ ((u.toNat : Nat) : Int) := by omega
    simp [Instr.sliceBounds, Instr.sliceBound, asIntOf, a1, a2, h1, h2]
    omega

theorem run_cut (hE : EnvOk G P E) {t : TypeId} {e : Ty} {A : Option Addr} {len cap : Nat} {lo hi : Option Int} {vl vh : Option Value} (ht : E.τ t = some (.sl e)) (hl : lo = none ∧ vl = none ∨ ∃ n k, lo = some n ∧ vl = some (.int k n))
    (hh : hi = none ∧ vh = none ∨ ∃ n k, hi = some n ∧ vh = some (.int k n)) (h1 : 0 ≤ lo.getD 0) (h2 : lo.getD 0 ≤ hi.getD len) (h3 : hi.getD len ≤ len) (hc : len ≤ cap) :
    (Instr.sliceAt t (.slice A len cap) vl vh none).run P w =
      .ok (.slice (if cap = (lo.getD 0).toNat then A else A.map (·.add ((lo.getD 0).toNat * e.size))) ((hi.getD len).toNat - (lo.getD 0).toNat) (cap - (lo.getD 0).toNat)) w := by
  obtain ⟨m, e', u1, u2, u3⟩ := tyOk_sl (hE.ty _ _ ht)
  obtain ⟨i, k1, k2, k3⟩ := tyOk_info u2
  have hb := run_bounds (P := P) (w := w) (isS := true) hl hh h1 h2 h3 hc
  simp [Instr.sliceAt, run_underlying u1, Instr.slice, hb, sizeOf, typeInfo, k1, k2]

/-- A cut of a slice that is read. -/
theorem cut_rep {w : World} {B : Nat → Prop} {e : Ty} {xs : El (.sl e)} {A : Option Addr} {len cap : Nat} {lo hi : Int} (h : Rep tg w B (.sl e) .no xs [.slice A len cap] []) (h1 : 0 ≤ lo) (h2 : lo ≤ hi) (h3 : hi ≤ len) :
    Rep tg w B (.sl e) .no ((xs.take hi.toNat).drop lo.toNat) [.slice (if cap = lo.toNat then A else A.map (·.add (lo.toNat * e.size))) (hi.toNat - lo.toNat) (cap - lo.toNat)] [] := by
  obtain ⟨A', n', c', hcs, k1, k2, _, k4⟩ := h
  simp at hcs
  obtain ⟨rfl, rfl, rfl⟩ := hcs
  have hlen : ((xs.take hi.toNat).drop lo.toNat).length = hi.toNat - lo.toNat := by
    rw [List.length_drop, List.length_take]
    have : len = List.length xs := k1
    omega
  refine ⟨_, _, _, rfl, hlen.symm, by omega, rfl, fun i hi' => ?_⟩
  rw [hlen] at hi'
  have hix : lo.toNat + i < List.length xs := by have : len = List.length xs := k1; omega
  obtain ⟨b, off, ds, hA, m1, m2, m3, m4⟩ := k4 (lo.toNat + i) hix
  have hne : ¬ cap = lo.toNat := by omega
  refine ⟨b, off + lo.toNat * e.size, ds, ?_, m1, m2, ?_, ?_⟩
  · rw [if_neg hne, hA]
    simp [addr_add]
  · rw [Nat.add_assoc, ← Nat.add_mul]
    exact m3
  · rw [List.getElem_drop, List.getElem_take]
    exact m4

theorem q_slice (hE : EnvOk G P E) (h : Inv tg C st a w fps []) (t : TypeId) (x : Operand) (lo hi mx : Option Operand) (he : evQ E (opd st.at) ⟨dst, .slice t x lo hi mx, ty, pos, after, guard⟩ K = some r) :
    Aim tg C P st a w fps ⟨dst, .slice t x lo hi mx, ty, pos, after, guard⟩ K r := by
  simp only [evQ] at he
  have hx := opd_ok h.rep h.refs x
  have hr := hx.refs
  split at he
  · rename_i t1 f1 x1 s l hh es ecx ec el eh
    obtain ⟨h1, h2, h3, he⟩ := cutTests_some he
    obtain ⟨vl, hvl, kl⟩ := optInt_run h el
    obtain ⟨vh, hvh, kh⟩ := optInt_run h eh
    have hvc : (opd st.at x).vc = some ⟨.str, s⟩ := by simp [RO.vc, ecx, ec]
    obtain ⟨d, u1, _, u3⟩ := tyOk_und (hE.ty _ _ es)
    simp only at u3
    subst u3
    have hb := run_bounds (P := P) (w := w) (isS := false) kl kh h1 h2 h3 (Nat.le_refl _)
    refine ⟨_, he, yStr ?_⟩
    simp [execOp, hx.str hvc, hvl, hvh, Instr.sliceAt, run_underlying u1, Instr.slice, hb]
  · rename_i u t1 f1 x1 e xs l hh es ecx ec el eh
    split at he
    case h_2 => cases he
    rename_i hb
    obtain rfl := beq_ty hb
    obtain ⟨h1, h2, h3, he⟩ := cutTests_some he
    obtain ⟨vl, hvl, kl⟩ := optInt_run h el
    obtain ⟨vh, hvh, kh⟩ := optInt_run h eh
    have hvc : (opd st.at x).vc = some ⟨.sl e, xs⟩ := by simp [RO.vc, ecx, ec]
    have how : (opd st.at x).ow = false := opd_v_ow ecx
    obtain ⟨A, n, cc, hv, k1, k2, hrp⟩ := hx.sl hvc
    rw [hv] at hrp
    have hrp' := hrp.imp (B' := permB C w fps []) fun b hb => hb.resolve_right (by simp [how])
    have hn : (n : Int) = (List.length xs : Int) := by rw [k1]
    rw [← k1] at h2 h3
    have hrun := run_cut (w := w) hE (A := A) es kl kh h1 h2 h3 k2
    refine ⟨_, he, .scalar (cut_rep hrp' h1 (by rw [← k1]; exact h2) (by rw [← k1]; exact h3)) ?_⟩
    rw [← k1]
    simp [execOp, hv, hvl, hvh, hrun, mkVal, Ty.agg]
  · rename_i u s t1 x1 e xs l hh es ecx ec el eh
    split at he
    case h_2 => cases he
    rename_i hb
    obtain rfl := beq_ty hb
    obtain ⟨h1, h2, h3, he⟩ := cutTests_some he
    obtain ⟨vl, hvl, kl⟩ := optInt_run h el
    obtain ⟨vh, hvh, kh⟩ := optInt_run h eh
    have hvc : (opd st.at x).vc = some ⟨.sl e, xs⟩ := by simp [RO.vc, ecx, ec]
    obtain ⟨A, n, cc, hv, k1, k2, hrp⟩ := hx.sl hvc
    rw [hv] at hrp
    have hat := hx.at_ s (by rw [ecx]; simp [refsOf]) (by rw [ecx]; rfl)
    have hrp' := hrp.imp (B' := fun b => permB C w fps [] b ∨ b ∈ fps s) fun b hb => hb.imp id fun hb => by
      rcases hb.2 with hb | ⟨hb, _⟩
      · rw [hat]; exact hb
      · rw [ecx] at hb; simp [isFn] at hb
    rw [← k1] at h2 h3
    have hrun := run_cut (w := w) hE (A := A) es kl kh h1 h2 h3 k2
    rw [ecx] at hr
    refine ⟨_, he, .pure (by simpa [refsOf] using hr) ⟨rfl, _, rfl, cut_rep hrp' h1 (by rw [← k1]; exact h2) (by rw [← k1]; exact h3)⟩ ?_⟩
    rw [← k1]
    simp [execOp, hv, hvl, hvh, hrun, mkVal, Ty.agg]
  · rename_i u s p e xs l hh es ecx ec el eh
    split at he
    case h_2 => cases he
    rename_i hb
    obtain rfl := beq_ty hb
    obtain ⟨h1, h2, h3, he⟩ := cutTests_some he
    obtain ⟨vl, hvl, kl⟩ := optInt_run h el
    obtain ⟨vh, hvh, kh⟩ := optInt_run h eh
    have hvc : (opd st.at x).vc = some ⟨.sl e, xs⟩ := by simp [RO.vc, ecx, ec]
    obtain ⟨A, n, cc, hv, k1, k2, hrp⟩ := hx.sl hvc
    rw [hv] at hrp
    have hat := hx.at_ s (by rw [ecx]; simp [refsOf]) (by rw [ecx]; rfl)
    have hrp' := hrp.imp (B' := fun b => permB C w fps [] b ∨ b ∈ fps s) fun b hb => hb.imp id fun hb => by
      rcases hb.2 with hb | ⟨hb, _⟩
      · rw [hat]; exact hb
      · rw [ecx] at hb; simp [isFn] at hb
    rw [← k1] at h2 h3
    have hrun := run_cut (w := w) hE (A := A) es kl kh h1 h2 h3 k2
    rw [ecx] at hr
    refine ⟨_, he, .pure (by simpa [refsOf] using hr) ⟨rfl, _, rfl, cut_rep hrp' h1 (by rw [← k1]; exact h2) (by rw [← k1]; exact h3)⟩ ?_⟩
    rw [← k1]
    simp [execOp, hv, hvl, hvh, hrun, mkVal, Ty.agg]
  · cases he

theorem tup_get {w : World} {B : Nat → Prop} : ∀ {l : List Res} {vs : List Value} {fp : List Nat} {j : Nat} {r : Res}, RepTup tg w B l vs fp → l[j]? = some r → ∃ cs f1 fm f3, vs[j]? = some (mkVal r.t cs) ∧ fp = f1 ++ fm ++ f3 ∧ Rep tg w B r.t r.φ r.x cs fm
  | [], _, _, j, _, h, hj => by simp at hj
  | r0 :: l, _, _, 0, r, h, hj => by
    obtain ⟨cs, vs', f1, f2, rfl, rfl, h1, h2⟩ := h
    simp at hj
    subst hj
    exact ⟨cs, [], f1, f2, rfl, by simp, h1⟩
  | r0 :: l, _, _, j + 1, r, h, hj => by
    obtain ⟨cs, vs', f1, f2, rfl, rfl, h1, h2⟩ := h
    obtain ⟨cs', g1, gm, g3, k1, rfl, k3⟩ := tup_get h2 (by simpa using hj)
    exact ⟨cs', f1 ++ g1, gm, g3, by simpa using k1, by simp, k3⟩

theorem q_extract (h : Inv tg C st a w fps []) (x : Operand) (j : Nat) (he : evQ E (opd st.at) ⟨dst, .extract x j, ty, pos, after, guard⟩ K = some r) :
    Aim tg C P st a w fps ⟨dst, .extract x j, ty, pos, after, guard⟩ K r := by
  simp only [evQ] at he
  have hx := opd_ok h.rep h.refs x
  have hc := hx.cp
  split at he
  case h_2 => cases he
  rename_i l e
  split at he
  case h_2 => cases he
  rename_i r1 hj
  split at he
  case h_2 => cases he
  rename_i hcl
  rw [e] at hc
  obtain ⟨vs, hv, ht⟩ := hc
  obtain ⟨cs, f1, fm, f3, k1, k2, k3⟩ := tup_get ht hj
  have e0 : fm = [] := by simp at k2; exact k2.2.1
  subst e0
  refine ⟨_, he, .scalar ((k3.forget hcl).imp (by simp)) ?_⟩
  simp [execOp, hv, Instr.extract, k1]
end
end
end Go.Ev
