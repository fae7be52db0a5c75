/- A part of the proof: lemmas that the law's theorem uses; their conditions stand in each theorem. -/
import Derived.Test.YtaifdjmejglkgaaGreatDoorDefs
import Derived.Test.YtaifdjmejglkgaaGreatDoorProg
namespace Go.Ev.Z
set_option maxRecDepth 100000
open Go.Proofs
noncomputable def GG : GP := gpCells Tryz.prog 6 [("internal/strconv.uint64pow10", (Lib.pow10Tab.map fun z => Value.int .u64 z).toArray)] [(1, isI64), (4, isErr), (5, isErr)] (by kernel_rfl) (by kernel_rfl)
theorem ggTab (w : World) (h : GG.G w) : Lib.TabIs Tryz.prog w "internal/strconv.uint64pow10" .u64 Lib.pow10Tab := h.1.2 _ (List.mem_cons_self ..)
theorem ggLen (w : World) (h : GG.G w) : ∃ m, w.cell? ⟨1, 0, none⟩ = some (.int .i64 m) := by
  obtain ⟨v, hv, m, rfl⟩ := h.2 _ (List.mem_cons_self ..)
  exact ⟨m, hv⟩
theorem ggSyn (w : World) (h : GG.G w) : ∃ v, w.cell? ⟨4, 0, none⟩ = some v ∧ (v = .nilIface ∨ ∃ te pe, v = .iface te pe) := h.2 _ (List.mem_cons_of_mem _ (List.mem_cons_self ..))
theorem ggRng (w : World) (h : GG.G w) : ∃ v, w.cell? ⟨5, 0, none⟩ = some v ∧ (v = .nilIface ∨ ∃ te pe, v = .iface te pe) := h.2 _ (List.mem_cons_of_mem _ (List.mem_cons_of_mem _ (List.mem_cons_self ..)))
noncomputable def E0 (F : Nat) : Env := baseEnv tab (fun f => [].any fun k => Nat.beq f k)
noncomputable def en_laws_szBlock (F : Nat) : Entry := ⟨23, [Tsss, (.int .i64)], [((.int .i64), .no)], fun x => laws_szBlock F x.1 x.2.1⟩
noncomputable def ls_laws_szBlock (F : Nat) : List (Nat × LoopFn) := []
noncomputable def E_laws_szBlock (F : Nat) : Env := (E0 F).ext (en_laws_szBlock F)
noncomputable def en_laws_szBlockS (F : Nat) : Entry := ⟨5, [(.sl Tsss), (.int .i64)], [((.int .i64), .no)], fun x => laws_szBlockS F x.1 x.2.1⟩
noncomputable def ls_laws_szBlockS (F : Nat) : List (Nat × LoopFn) := [(0, laws_szBlockS_l0 F)]
noncomputable def E_laws_szBlockS (F : Nat) : Env := (E_laws_szBlock F).ext (en_laws_szBlockS F)
noncomputable def en_laws_toBlock (F : Nat) : Entry := ⟨27, [Tsss], [(Tsss, (.pr .no (.pr .no (.pr .no .no))))], fun x => laws_toBlock F x.1⟩
noncomputable def ls_laws_toBlock (F : Nat) : List (Nat × LoopFn) := []
noncomputable def E_laws_toBlock (F : Nat) : Env := (E_laws_szBlockS F).ext (en_laws_toBlock F)
noncomputable def en_laws_toBlockS (F : Nat) : Entry := ⟨7, [(.sl Tsss)], [((.sl Tsss), (.own none (.pr .no (.pr .no (.pr .no .no)))))], fun x => laws_toBlockS F x.1⟩
noncomputable def ls_laws_toBlockS (F : Nat) : List (Nat × LoopFn) := [(0, laws_toBlockS_l0 F)]
noncomputable def E_laws_toBlockS (F : Nat) : Env := (E_laws_toBlock F).ext (en_laws_toBlockS F)
noncomputable def en_spec_l01Small (F : Nat) : Entry := ⟨150, [(.int .u8)], [(.bool, .no)], fun x => spec_l01Small F x.1⟩
noncomputable def ls_spec_l01Small (F : Nat) : List (Nat × LoopFn) := []
noncomputable def E_spec_l01Small (F : Nat) : Env := (E_laws_toBlockS F).ext (en_spec_l01Small F)
noncomputable def en_spec_l01Digit (F : Nat) : Entry := ⟨151, [(.int .u8)], [(.bool, .no)], fun x => spec_l01Digit F x.1⟩
noncomputable def ls_spec_l01Digit (F : Nat) : List (Nat × LoopFn) := []
noncomputable def E_spec_l01Digit (F : Nat) : Env := (E_spec_l01Small F).ext (en_spec_l01Digit F)
noncomputable def en_spec_l01Name (F : Nat) : Entry := ⟨115, [.str], [(.bool, .no)], fun x => spec_l01Name F x.1⟩
noncomputable def ls_spec_l01Name (F : Nat) : List (Nat × LoopFn) := [(0, spec_l01Name_l0 F)]
noncomputable def E_spec_l01Name (F : Nat) : Env := (E_spec_l01Digit F).ext (en_spec_l01Name F)
noncomputable def en_spec_l29One (F : Nat) : Entry := ⟨67, [(.ptr Tsss)], [(.bool, .no)], fun x => spec_l29One F x.1⟩
noncomputable def ls_spec_l29One (F : Nat) : List (Nat × LoopFn) := [(0, spec_l29One_l0 F)]
noncomputable def E_spec_l29One (F : Nat) : Env := (E_spec_l01Name F).ext (en_spec_l29One F)
noncomputable def en_spec_l29Before (F : Nat) : Entry := ⟨68, [(.ptr Tsss), (.ptr Tsss)], [(.bool, .no)], fun x => spec_l29Before F x.1 x.2.1⟩
noncomputable def ls_spec_l29Before (F : Nat) : List (Nat × LoopFn) := []
noncomputable def E_spec_l29Before (F : Nat) : Env := (E_spec_l29One F).ext (en_spec_l29Before F)
noncomputable def en_spec_l29Ok (F : Nat) : Entry := ⟨24, [(.sl Tsss)], [(.bool, .no)], fun x => spec_l29Ok F x.1⟩
noncomputable def ls_spec_l29Ok (F : Nat) : List (Nat × LoopFn) := [(0, spec_l29Ok_l0 F)]
noncomputable def E_spec_l29Ok (F : Nat) : Env := (E_spec_l29Before F).ext (en_spec_l29Ok F)
noncomputable def en_spec_l00In (F : Nat) : Entry := ⟨25, [(.int .i64), (.int .i64), (.int .i64)], [(.bool, .no)], fun x => spec_l00In F x.1 x.2.1 x.2.2.1⟩
noncomputable def ls_spec_l00In (F : Nat) : List (Nat × LoopFn) := []
noncomputable def E_spec_l00In (F : Nat) : Env := (E_spec_l29Ok F).ext (en_spec_l00In F)
noncomputable def en_spec_l01Split (F : Nat) : Entry := ⟨69, [.str, (.int .u8)], [((.sl .str), (.own none .no))], fun x => spec_l01Split F x.1 x.2.1⟩
noncomputable def ls_spec_l01Split (F : Nat) : List (Nat × LoopFn) := [(0, spec_l01Split_l0 F)]
noncomputable def E_spec_l01Split (F : Nat) : Env := (E_spec_l00In F).ext (en_spec_l01Split F)
noncomputable def en_spec_l01Number (F : Nat) : Entry := ⟨116, [.str], [((.int .i64), .no), (.bool, .no)], fun x => spec_l01Number F x.1⟩
noncomputable def ls_spec_l01Number (F : Nat) : List (Nat × LoopFn) := [(0, spec_l01Number_l0 F)]
noncomputable def E_spec_l01Number (F : Nat) : Env := (E_spec_l01Split F).ext (en_spec_l01Number F)
noncomputable def en_spec_ReadList (F : Nat) : Entry := ⟨70, [.str], [((.sl (.int .i64)), (.own none .no)), (.bool, .no)], fun x => spec_ReadList F x.1⟩
noncomputable def ls_spec_ReadList (F : Nat) : List (Nat × LoopFn) := [(0, spec_ReadList_l0 F)]
noncomputable def E_spec_ReadList (F : Nat) : Env := (E_spec_l01Number F).ext (en_spec_ReadList F)
noncomputable def en_spec_l03Ok (F : Nat) : Entry := ⟨71, [(.ptr Tsiiiiii)], [(.bool, .no)], fun x => spec_l03Ok F x.1⟩
noncomputable def ls_spec_l03Ok (F : Nat) : List (Nat × LoopFn) := []
noncomputable def E_spec_l03Ok (F : Nat) : Env := (E_spec_ReadList F).ext (en_spec_l03Ok F)
noncomputable def en_spec_l03Read (F : Nat) : Entry := ⟨26, [.str], [(Tsiiiiii, (.pr .no (.pr .no (.pr .no (.pr .no (.pr .no (.pr .no (.pr .no .no)))))))), (.bool, .no)], fun x => spec_l03Read F x.1⟩
noncomputable def ls_spec_l03Read (F : Nat) : List (Nat × LoopFn) := []
noncomputable def E_spec_l03Read (F : Nat) : Env := (E_spec_l03Ok F).ext (en_spec_l03Read F)
noncomputable def en_spec_MineOfBlocks (F : Nat) : Entry := ⟨6, [(.sl Tsss), (.int .i64)], [(TiSqsiiiiiip, (.pr .no (.pr (.own none (.pr .no (.pr .no (.pr .no (.pr .no (.pr .no (.pr .no (.pr .no .no)))))))) .no))), ((.int .i64), .no)], fun x => spec_MineOfBlocks F x.1 x.2.1⟩
noncomputable def ls_spec_MineOfBlocks (F : Nat) : List (Nat × LoopFn) := [(0, spec_MineOfBlocks_l0 F)]
noncomputable def E_spec_MineOfBlocks (F : Nat) : Env := (E_spec_l03Read F).ext (en_spec_MineOfBlocks F)
noncomputable def en_impl_onlyNameBytes (F : Nat) : Entry := ⟨152, [.str], [(.bool, .no)], fun x => impl_onlyNameBytes F x.1⟩
noncomputable def ls_impl_onlyNameBytes (F : Nat) : List (Nat × LoopFn) := [(0, impl_onlyNameBytes_l0 F)]
noncomputable def E_impl_onlyNameBytes (F : Nat) : Env := (E_spec_MineOfBlocks F).ext (en_impl_onlyNameBytes F)
noncomputable def en_impl_IsName (F : Nat) : Entry := ⟨117, [.str], [(.bool, .no)], fun x => impl_IsName F x.1⟩
noncomputable def ls_impl_IsName (F : Nat) : List (Nat × LoopFn) := []
noncomputable def E_impl_IsName (F : Nat) : Env := (E_impl_onlyNameBytes F).ext (en_impl_IsName F)
noncomputable def en_strings_Contains (F : Nat) : Entry := ⟨118, [.str, .str], [(.bool, .no)], fun x => libContains x.1 x.2.1⟩
noncomputable def E_strings_Contains (F : Nat) : Env := (E_impl_IsName F).ext (en_strings_Contains F)
noncomputable def en_impl_ValidBlock (F : Nat) : Entry := ⟨72, [Tsss], [(.bool, .no)], fun x => impl_ValidBlock F x.1⟩
noncomputable def ls_impl_ValidBlock (F : Nat) : List (Nat × LoopFn) := []
noncomputable def E_impl_ValidBlock (F : Nat) : Env := (E_strings_Contains F).ext (en_impl_ValidBlock F)
noncomputable def en_cmp_isNaN_string (F : Nat) : Entry := ⟨154, [.str], [(.bool, .no)], fun x => cmp_isNaN_string F x.1⟩
noncomputable def ls_cmp_isNaN_string (F : Nat) : List (Nat × LoopFn) := []
noncomputable def E_cmp_isNaN_string (F : Nat) : Env := (E_impl_ValidBlock F).ext (en_cmp_isNaN_string F)
noncomputable def en_cmp_Compare_string (F : Nat) : Entry := ⟨120, [.str, .str], [((.int .i64), .no)], fun x => cmp_Compare_string F x.1 x.2.1⟩
noncomputable def ls_cmp_Compare_string (F : Nat) : List (Nat × LoopFn) := []
noncomputable def E_cmp_Compare_string (F : Nat) : Env := (E_cmp_isNaN_string F).ext (en_cmp_Compare_string F)
noncomputable def en_cmp_Or_int (F : Nat) : Entry := ⟨119, [(.sl (.int .i64))], [((.int .i64), .no)], fun x => cmp_Or_int F x.1⟩
noncomputable def ls_cmp_Or_int (F : Nat) : List (Nat × LoopFn) := [(0, cmp_Or_int_l0 F)]
noncomputable def E_cmp_Or_int (F : Nat) : Env := (E_cmp_Compare_string F).ext (en_cmp_Or_int F)
noncomputable def en_impl_compareBlocks (F : Nat) : Entry := ⟨73, [Tsss, Tsss], [((.int .i64), .no)], fun x => impl_compareBlocks F x.1 x.2.1⟩
noncomputable def ls_impl_compareBlocks (F : Nat) : List (Nat × LoopFn) := []
noncomputable def E_impl_compareBlocks (F : Nat) : Env := (E_cmp_Or_int F).ext (en_impl_compareBlocks F)
noncomputable def en_impl_ValidBlocks (F : Nat) : Entry := ⟨28, [(.sl Tsss)], [(.bool, .no)], fun x => impl_ValidBlocks F x.1⟩
noncomputable def ls_impl_ValidBlocks (F : Nat) : List (Nat × LoopFn) := [(0, impl_ValidBlocks_l0 F)]
noncomputable def E_impl_ValidBlocks (F : Nat) : Env := (E_impl_compareBlocks F).ext (en_impl_ValidBlocks F)
noncomputable def en_impl_within (F : Nat) : Entry := ⟨29, [(.int .i64), (.int .i64), (.int .i64)], [(.bool, .no)], fun x => impl_within F x.1 x.2.1 x.2.2.1⟩
noncomputable def ls_impl_within (F : Nat) : List (Nat × LoopFn) := []
noncomputable def E_impl_within (F : Nat) : Env := (E_impl_ValidBlocks F).ext (en_impl_within F)
noncomputable def en_strings_Cut (F : Nat) : Entry := ⟨121, [.str, .str], [(.str, .no), (.str, .no), (.bool, .no)], fun x => libCut x.1 x.2.1⟩
noncomputable def E_strings_Cut (F : Nat) : Env := (E_impl_within F).ext (en_strings_Cut F)
noncomputable def en_strings_SplitN (F : Nat) : Entry := ⟨156, [.str, .str, (.int .i64)], [((.sl .str), (.own none .no))], fun x => libSplitN x.1 x.2.1 x.2.2.1⟩
noncomputable def E_strings_SplitN (F : Nat) : Env := (E_strings_Cut F).ext (en_strings_SplitN F)
noncomputable def en_impl_ReadDecimal (F : Nat) : Entry := ⟨157, [.str], [((.int .i64), .no), (.bool, .no)], fun x => libReadDecimal x.1⟩
noncomputable def E_impl_ReadDecimal (F : Nat) : Env := (E_strings_SplitN F).ext (en_impl_ReadDecimal F)
noncomputable def en_strconv_FormatInt (F : Nat) : Entry := ⟨108, [(.int .i64), (.int .i64)], [(.str, .no)], fun x => libFormatInt x.1 x.2.1⟩
noncomputable def E_strconv_FormatInt (F : Nat) : Env := (E_impl_ReadDecimal F).ext (en_strconv_FormatInt F)
noncomputable def en_impl_Decimal (F : Nat) : Entry := ⟨54, [(.int .i64)], [(.str, .no)], fun x => impl_Decimal F x.1⟩
noncomputable def ls_impl_Decimal (F : Nat) : List (Nat × LoopFn) := []
noncomputable def E_impl_Decimal (F : Nat) : Env := (E_strconv_FormatInt F).ext (en_impl_Decimal F)
noncomputable def en_strings_Join (F : Nat) : Entry := ⟨178, [(.sl .str), .str], [(.str, .no)], fun x => libJoin x.1 x.2.1⟩
noncomputable def E_strings_Join (F : Nat) : Env := (E_impl_Decimal F).ext (en_strings_Join F)
noncomputable def en_impl_ListText (F : Nat) : Entry := ⟨158, [(.sl (.int .i64))], [(.str, .no)], fun x => impl_ListText F x.1⟩
noncomputable def ls_impl_ListText (F : Nat) : List (Nat × LoopFn) := [(0, impl_ListText_l0 F)]
noncomputable def E_impl_ListText (F : Nat) : Env := (E_strings_Join F).ext (en_impl_ListText F)
noncomputable def en_impl_ReadList (F : Nat) : Entry := ⟨122, [.str], [((.sl (.int .i64)), (.own none .no)), (.bool, .no)], fun x => impl_ReadList F x.1⟩
noncomputable def ls_impl_ReadList (F : Nat) : List (Nat × LoopFn) := [(0, impl_ReadList_l0 F)]
noncomputable def E_impl_ReadList (F : Nat) : Env := (E_impl_ListText F).ext (en_impl_ReadList F)
noncomputable def en_impl_readWithId (F : Nat) : Entry := ⟨74, [.str, (.int .i64)], [(.str, .no), ((.sl (.int .i64)), (.own none .no)), (.bool, .no)], fun x => impl_readWithId F x.1 x.2.1⟩
noncomputable def ls_impl_readWithId (F : Nat) : List (Nat × LoopFn) := []
noncomputable def E_impl_readWithId (F : Nat) : Env := (E_impl_ReadList F).ext (en_impl_readWithId F)
noncomputable def en_impl_junctionOk (F : Nat) : Entry := ⟨159, [(.int .i64)], [(.bool, .no)], fun x => impl_junctionOk F x.1⟩
noncomputable def ls_impl_junctionOk (F : Nat) : List (Nat × LoopFn) := []
noncomputable def E_impl_junctionOk (F : Nat) : Env := (E_impl_readWithId F).ext (en_impl_junctionOk F)
noncomputable def en_impl_ValidAirway (F : Nat) : Entry := ⟨123, [Tsiiiiii], [(.bool, .no)], fun x => impl_ValidAirway F x.1⟩
noncomputable def ls_impl_ValidAirway (F : Nat) : List (Nat × LoopFn) := []
noncomputable def E_impl_ValidAirway (F : Nat) : Env := (E_impl_junctionOk F).ext (en_impl_ValidAirway F)
noncomputable def en_impl_withId (F : Nat) : Entry := ⟨124, [.str, (.sl (.int .i64))], [(.str, .no)], fun x => impl_withId F x.1 x.2.1⟩
noncomputable def ls_impl_withId (F : Nat) : List (Nat × LoopFn) := []
noncomputable def E_impl_withId (F : Nat) : Env := (E_impl_ValidAirway F).ext (en_impl_withId F)
noncomputable def en_impl_AirwayText (F : Nat) : Entry := ⟨75, [Tsiiiiii], [(.str, .no)], fun x => impl_AirwayText F x.1⟩
noncomputable def ls_impl_AirwayText (F : Nat) : List (Nat × LoopFn) := []
noncomputable def E_impl_AirwayText (F : Nat) : Env := (E_impl_withId F).ext (en_impl_AirwayText F)
noncomputable def en_impl_ReadAirway (F : Nat) : Entry := ⟨30, [.str], [(Tsiiiiii, (.pr .no (.pr .no (.pr .no (.pr .no (.pr .no (.pr .no (.pr .no .no)))))))), (.bool, .no)], fun x => impl_ReadAirway F x.1⟩
noncomputable def ls_impl_ReadAirway (F : Nat) : List (Nat × LoopFn) := []
noncomputable def E_impl_ReadAirway (F : Nat) : Env := (E_impl_AirwayText F).ext (en_impl_ReadAirway F)
noncomputable def en_impl_Mine_hasJunction (F : Nat) : Entry := ⟨76, [TiSqsiiiiiip, (.int .i64)], [(.bool, .no)], fun x => impl_Mine_hasJunction F x.1 x.2.1⟩
noncomputable def ls_impl_Mine_hasJunction (F : Nat) : List (Nat × LoopFn) := []
noncomputable def E_impl_Mine_hasJunction (F : Nat) : Env := (E_impl_ReadAirway F).ext (en_impl_Mine_hasJunction F)
noncomputable def en_impl_Mine_hasEnds (F : Nat) : Entry := ⟨31, [TiSqsiiiiiip, Tsiiiiii], [(.bool, .no)], fun x => impl_Mine_hasEnds F x.1 x.2.1⟩
noncomputable def ls_impl_Mine_hasEnds (F : Nat) : List (Nat × LoopFn) := []
noncomputable def E_impl_Mine_hasEnds (F : Nat) : Env := (E_impl_Mine_hasJunction F).ext (en_impl_Mine_hasEnds F)
noncomputable def en_impl_MineOfBlocks (F : Nat) : Entry := ⟨8, [(.sl Tsss), (.int .i64)], [(TiSqsiiiiiip, (.pr .no (.pr (.own none (.pr .no (.pr .no (.pr .no (.pr .no (.pr .no (.pr .no (.pr .no .no)))))))) .no))), ((.int .i64), .no)], fun x => impl_MineOfBlocks F x.1 x.2.1⟩
noncomputable def ls_impl_MineOfBlocks (F : Nat) : List (Nat × LoopFn) := [(1, impl_MineOfBlocks_l0 F)]
noncomputable def E_impl_MineOfBlocks (F : Nat) : Env := (E_impl_Mine_hasEnds F).ext (en_impl_MineOfBlocks F)
noncomputable def en_laws_eqAirway (F : Nat) : Entry := ⟨77, [Tsiiiiii, Tsiiiiii], [(.bool, .no)], fun x => laws_eqAirway F x.1 x.2.1⟩
noncomputable def ls_laws_eqAirway (F : Nat) : List (Nat × LoopFn) := []
noncomputable def E_laws_eqAirway (F : Nat) : Env := (E_impl_MineOfBlocks F).ext (en_laws_eqAirway F)
noncomputable def en_laws_eqAirwayS (F : Nat) : Entry := ⟨32, [(.sl Tsiiiiii), (.sl Tsiiiiii)], [(.bool, .no)], fun x => laws_eqAirwayS F x.1 x.2.1⟩
noncomputable def ls_laws_eqAirwayS (F : Nat) : List (Nat × LoopFn) := [(0, laws_eqAirwayS_l0 F)]
noncomputable def E_laws_eqAirwayS (F : Nat) : Env := (E_laws_eqAirway F).ext (en_laws_eqAirwayS F)
noncomputable def en_laws_eqMine (F : Nat) : Entry := ⟨9, [TiSqsiiiiiip, TiSqsiiiiiip], [(.bool, .no)], fun x => laws_eqMine F x.1 x.2.1⟩
noncomputable def ls_laws_eqMine (F : Nat) : List (Nat × LoopFn) := []
noncomputable def E_laws_eqMine (F : Nat) : Env := (E_laws_eqAirwayS F).ext (en_laws_eqMine F)
noncomputable def en_laws_eqBlock (F : Nat) : Entry := ⟨33, [Tsss, Tsss], [(.bool, .no)], fun x => laws_eqBlock F x.1 x.2.1⟩
noncomputable def ls_laws_eqBlock (F : Nat) : List (Nat × LoopFn) := []
noncomputable def E_laws_eqBlock (F : Nat) : Env := (E_laws_eqMine F).ext (en_laws_eqBlock F)
noncomputable def en_laws_eqBlockS (F : Nat) : Entry := ⟨10, [(.sl Tsss), (.sl Tsss)], [(.bool, .no)], fun x => laws_eqBlockS F x.1 x.2.1⟩
noncomputable def ls_laws_eqBlockS (F : Nat) : List (Nat × LoopFn) := [(0, laws_eqBlockS_l0 F)]
noncomputable def E_laws_eqBlockS (F : Nat) : Env := (E_laws_eqBlock F).ext (en_laws_eqBlockS F)
noncomputable def en_laws_markText (F : Nat) : Entry := ⟨34, [(.int .i64)], [(.str, .no)], fun x => laws_markText F x.1⟩
noncomputable def ls_laws_markText (F : Nat) : List (Nat × LoopFn) := [(0, laws_markText_l0 F)]
noncomputable def E_laws_markText (F : Nat) : Env := (E_laws_eqBlockS F).ext (en_laws_markText F)
noncomputable def en_laws_markBlockS (F : Nat) : EntryW := ⟨11, (.sl Tsss), [(.int .i64)], [((.int .i64), .no)], fun x a => laws_markBlockS F x a.1⟩
noncomputable def ls_laws_markBlockS (F : Nat) : List (Nat × LoopFn) := [(0, laws_markBlockS_l0 F)]
noncomputable def E_laws_markBlockS (F : Nat) : Env := (E_laws_markText F).extW (en_laws_markBlockS F)
noncomputable def en_laws_markAirwayS (F : Nat) : EntryW := ⟨35, (.sl Tsiiiiii), [(.int .i64)], [((.int .i64), .no)], fun x a => laws_markAirwayS F x a.1⟩
noncomputable def ls_laws_markAirwayS (F : Nat) : List (Nat × LoopFn) := [(0, laws_markAirwayS_l0 F)]
noncomputable def E_laws_markAirwayS (F : Nat) : Env := (E_laws_markBlockS F).extW (en_laws_markAirwayS F)
noncomputable def en_laws_markMine (F : Nat) : EntryW := ⟨12, TiSqsiiiiiip, [(.int .i64)], [((.int .i64), .no)], fun x a => laws_markMine F x a.1⟩
noncomputable def ls_laws_markMine (F : Nat) : List (Nat × LoopFn) := []
noncomputable def E_laws_markMine (F : Nat) : Env := (E_laws_markAirwayS F).extW (en_laws_markMine F)
noncomputable def en_laws_heldAirwayS (F : Nat) : Entry := ⟨36, [(.sl Tsiiiiii), (.int .i64)], [((.int .i64), .no)], fun x => laws_heldAirwayS F x.1 x.2.1⟩
noncomputable def ls_laws_heldAirwayS (F : Nat) : List (Nat × LoopFn) := [(0, laws_heldAirwayS_l0 F)]
noncomputable def E_laws_heldAirwayS (F : Nat) : Env := (E_laws_markMine F).ext (en_laws_heldAirwayS F)
noncomputable def en_laws_heldMine (F : Nat) : Entry := ⟨13, [TiSqsiiiiiip, (.int .i64)], [((.int .i64), .no)], fun x => laws_heldMine F x.1 x.2.1⟩
noncomputable def ls_laws_heldMine (F : Nat) : List (Nat × LoopFn) := []
noncomputable def E_laws_heldMine (F : Nat) : Env := (E_laws_heldAirwayS F).ext (en_laws_heldMine F)
noncomputable def en_laws_FnExactMineOfBlocks (F : Nat) : Entry := ⟨3, [(.sl Tsss), (.int .i64)], [(.bool, .no)], fun x => laws_FnExactMineOfBlocks F x.1 x.2.1⟩
noncomputable def ls_laws_FnExactMineOfBlocks (F : Nat) : List (Nat × LoopFn) := []
noncomputable def E_laws_FnExactMineOfBlocks (F : Nat) : Env := (E_laws_heldMine F).ext (en_laws_FnExactMineOfBlocks F)
end Go.Ev.Z
