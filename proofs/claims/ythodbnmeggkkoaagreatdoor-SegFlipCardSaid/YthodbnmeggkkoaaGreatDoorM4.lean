/-
  Part 4 of the texts that the claim leans on: F2 E1 E2 D12.
-/
import Derived.Test.YthodbnmeggkkoaaGreatDoorM3
/-
  Calls at which all is known: ids of segments.
-/
namespace Go.Proofs.YthodbnmeggkkoaaGreatDoor
open Go Go.RowKit Go.Hb Go.Proofs
/-- internal/strconv.lower -/
theorem clF2_141_0 {g : World} {F : List HP} : RCs Tryz.prog 141 [(.int .u8 102)] g F (fun u w => u = (.int .u8 102) ∧ St g w F) := by
  refine RCs_of_WPs Tryz.func141 rfl Tryz.ntmps141 rfl Tryz.results141 ?_
  refine WPs_seq ?_
  refine WPs_regionK [0] ?_
  refine s_assign rfl rfl ?_
  refine SXs_nilK (fr' := [(0, _)]) rfl ?_
  refine KSs_wp ?_
  refine WPs_seq ?_
  refine WPs_regionK [2] ?_
  refine s_move rfl rfl ?_
  refine c_bin .or 102 (by simp) rfl rfl rfl (fun _ => by kernel_rfl) ?_
  refine s_assign rfl rfl ?_
  refine SXs_nilK (fr' := [(2, _)]) rfl ?_
  refine KSs_wp ?_
  refine WPs_ret ?_
  refine RLs_start ?_
  refine RLs_tmp rfl ?_
  refine RLs_fin1 ?_
  exact fun w hS => ⟨rfl, hS.sl (by (repeat ((exact Sl.refl _))))⟩

/-- internal/strconv.ParseUint -/
theorem clF2_109_0 {g : World} {F : List HP} : RCs Tryz.prog 109 [(.string ⟨#[48, 48, 48, 48, 102, 102]⟩), (.int .i64 16), (.int .i64 32)] g F (fun u w => u = .tuple #[(.int .u64 255), .nilIface] ∧ St g w F) := by
  refine RCs_of_WPs Tryz.func109 rfl Tryz.ntmps109 rfl Tryz.results109 ?_
  refine WPs_seq ?_
  refine WPs_regionK [0, 1, 2] ?_
  refine s_assign rfl rfl ?_
  refine s_assign rfl rfl ?_
  refine SXs_nilK (fr' := [(0, _), (1, _), (2, _)]) rfl ?_
  refine KSs_wp ?_
  refine WPs_seq ?_
  refine WPs_seq ?_
  refine WPs_regionK [0, 1, 2, 19] ?_
  refine s_move rfl rfl ?_
  refine c_strEq false rfl rfl rfl (by kernel_rfl) ?_
  refine SXs_nilK (fr' := [(0, _), (1, _), (2, _), (19, _)]) rfl ?_
  refine KSs_wp ?_
  refine WPs_condF rfl ?_
  refine WPs_skip ?_
  refine KSs_wp ?_
  refine WPs_seq ?_
  refine WPs_regionK [0, 1, 2, 8] ?_
  refine s_move rfl rfl ?_
  refine c_eql false rfl rfl rfl (by kernel_rfl) ?_
  refine s_assign rfl rfl ?_
  refine SXs_nilK (fr' := [(0, _), (1, _), (2, _), (8, _)]) rfl ?_
  refine KSs_wp ?_
  refine WPs_seq ?_
  refine WPs_regionK [0, 1, 2, 8, 9] ?_
  refine s_move rfl rfl ?_
  refine s_assign rfl rfl ?_
  refine SXs_nilK (fr' := [(0, _), (1, _), (2, _), (8, _), (9, _)]) rfl ?_
  refine KSs_wp ?_
  refine WPs_seq ?_
  refine WPs_block ?_
  refine WPs_seq ?_
  refine WPs_regionK [0, 1, 2, 8, 9, 25] ?_
  refine s_move rfl rfl ?_
  refine c_leq true rfl rfl rfl (by kernel_rfl) ?_
  refine s_move rfl rfl ?_
  refine s_guard_t2 rfl rfl (by ((rfl))) rfl ?_
  refine s_move rfl rfl ?_
  refine s_guard_t2 rfl rfl (by ((rfl))) rfl ?_
  refine c_leq true rfl rfl rfl (by kernel_rfl) ?_
  refine s_pick_t rfl rfl rfl ?_
  refine s_assign rfl rfl ?_
  refine SXs_nilK (fr' := [(0, _), (1, _), (2, _), (8, _), (9, _), (25, _)]) rfl ?_
  refine KSs_wp ?_
  refine WPs_condT rfl ?_
  refine WPs_skip ?_
  refine KSs_wp ?_
  refine WPs_seq ?_
  refine WPs_seq ?_
  refine WPs_regionK [0, 1, 2, 8, 9, 77] ?_
  refine s_move rfl rfl ?_
  refine c_eql false rfl rfl rfl (by kernel_rfl) ?_
  refine SXs_nilK (fr' := [(0, _), (1, _), (2, _), (8, _), (9, _), (77, _)]) rfl ?_
  refine KSs_wp ?_
  refine WPs_condF rfl ?_
  refine WPs_seq ?_
  refine WPs_regionK [0, 1, 2, 8, 9, 83] ?_
  refine s_move rfl rfl ?_
  refine c_lss false rfl rfl rfl (by kernel_rfl) ?_
  refine s_move rfl rfl ?_
  refine s_guard_t2 rfl rfl (by ((rfl))) rfl ?_
  refine s_move rfl rfl ?_
  refine s_guard_t2 rfl rfl (by ((rfl))) rfl ?_
  refine c_gtr false rfl rfl rfl (by kernel_rfl) ?_
  refine s_pick_f rfl rfl rfl ?_
  refine SXs_nilK (fr' := [(0, _), (1, _), (2, _), (8, _), (9, _), (83, _)]) rfl ?_
  refine KSs_wp ?_
  refine WPs_condF rfl ?_
  refine WPs_skip ?_
  refine KSs_wp ?_
  refine WPs_seq ?_
  refine WPs_regionK [0, 1, 2, 8, 9] ?_
  refine s_assign rfl rfl ?_
  refine SXs_nilK (fr' := [(0, _), (1, _), (2, _), (8, _), (9, _)]) rfl ?_
  refine KSs_wp ?_
  refine WPs_seq ?_
  refine WPs_seq ?_
  refine WPs_regionK [0, 1, 2, 8, 9, 85] ?_
  refine s_move rfl rfl ?_
  refine SXs_nilK (fr' := [(0, _), (1, _), (2, _), (8, _), (9, _), (85, _)]) rfl ?_
  refine KSs_wp ?_
  refine WPs_block ?_
  refine WPs_seq ?_
  refine WPs_regionK [0, 1, 2, 8, 9, 85, 90] ?_
  refine c_eql false rfl rfl rfl (by kernel_rfl) ?_
  refine s_assign rfl rfl ?_
  refine SXs_nilK (fr' := [(0, _), (1, _), (2, _), (8, _), (9, _), (85, _), (90, _)]) rfl ?_
  refine KSs_wp ?_
  refine WPs_condF rfl ?_
  refine WPs_seq ?_
  refine WPs_regionK [0, 1, 2, 8, 9, 92] ?_
  refine c_eql true rfl rfl rfl (by kernel_rfl) ?_
  refine s_assign rfl rfl ?_
  refine SXs_nilK (fr' := [(0, _), (1, _), (2, _), (8, _), (9, _), (92, _)]) rfl ?_
  refine KSs_wp ?_
  refine WPs_condT rfl ?_
  refine WPs_regionK [0, 1, 2, 8, 9, 10] ?_
  refine s_assign rfl rfl ?_
  refine SXs_nilK (fr' := [(0, _), (1, _), (2, _), (8, _), (9, _), (10, _)]) rfl ?_
  refine KSs_wp ?_
  refine WPs_seq ?_
  refine WPs_regionK [0, 1, 8, 9, 10, 11] ?_
  refine s_move rfl rfl ?_
  refine s_conv (c := 32) Tryz.underlying3 Tryz.underlying127 rfl rfl (by kernel_rfl) ?_
  refine s_shl (c := 4294967296) rfl rfl rfl (by omega) (by kernel_rfl) ?_
  refine s_sub' (c := 4294967295) rfl rfl rfl (by kernel_rfl) ?_
  refine s_assign rfl rfl ?_
  refine SXs_nilK (fr' := [(0, _), (1, _), (8, _), (9, _), (10, _), (11, _)]) rfl ?_
  refine KSs_wp ?_
  refine WPs_seq ?_
  refine WPs_regionK [0, 1, 8, 9, 10, 11, 12] ?_
  refine s_assign rfl rfl ?_
  refine SXs_nilK (fr' := [(0, _), (1, _), (8, _), (9, _), (10, _), (11, _), (12, _)]) rfl ?_
  refine KSs_wp ?_
  refine WPs_seq ?_
  refine WPs_regionK [0, 1, 8, 9, 10, 11, 12, 13] ?_
  refine s_assign rfl rfl ?_
  refine SXs_nilK (fr' := [(0, _), (1, _), (8, _), (9, _), (10, _), (11, _), (12, _), (13, _)]) rfl ?_
  refine KSs_wp ?_
  refine WPs_seq ?_
  refine WPs_seq ?_
  refine WPs_regionK [1, 8, 9, 10, 11, 12, 13, 99, 100, 101] ?_
  refine s_move rfl rfl ?_
  refine c_s2b (bs := [48, 48, 48, 48, 102, 102]) Tryz.underlying9 Tryz.underlying42 Tryz.underlying5 rfl rfl (by decide) (fun va99 vc99 Q99 hR99 => ?_)
  refine s_lenRd rfl Tryz.underlying42 rfl rfl hR99 ?_
  have hl100 : ((6 : Nat) : Int) = 6 := rfl
  refine s_move rfl rfl ?_
  refine SXs_nilK (fr' := [(1, _), (8, _), (9, _), (10, _), (11, _), (12, _), (13, _), (99, _), (100, _), (101, _)]) rfl ?_
  refine KSs_wp ?_
  refine WPs_block ?_
  refine WPs_unroll 59 ?_
  refine WPs_seq ?_
  refine WPs_regionK [1, 8, 9, 10, 11, 12, 13, 99, 100, 101, 102] ?_
  refine c_lss true rfl rfl rfl (by kernel_rfl) ?_
  refine SXs_nilK (fr' := [(1, _), (8, _), (9, _), (10, _), (11, _), (12, _), (13, _), (99, _), (100, _), (101, _), (102, _)]) rfl ?_
  refine KSs_wp ?_
  refine WPs_seq ?_
  refine WPs_condT rfl ?_
  refine WPs_skip ?_
  refine KSs_wp ?_
  refine WPs_seq ?_
  refine WPs_block ?_
  refine WPs_seq ?_
  refine WPs_regionK [1, 8, 9, 10, 11, 12, 13, 15, 99, 100, 101] ?_
  refine s_idxRd slt_42 rfl rfl hR99 rfl (by decide) (by decide) (fun b103 o103 hc103 => ?_)
  refine s_load1 (v := .int .u8 48) Tryz.isAgg5 rfl rfl (hc103.at0 rfl) ?_
  refine s_assign rfl rfl ?_
  refine SXs_nilK (fr' := [(1, _), (8, _), (9, _), (10, _), (11, _), (12, _), (13, _), (15, _), (99, _), (100, _), (101, _)]) rfl ?_
  refine KSs_wp ?_
  refine WPs_seq ?_
  refine WPs_regionK [1, 8, 9, 10, 11, 12, 13, 15, 99, 100, 101] ?_
  refine s_assign rfl rfl ?_
  refine SXs_nilK (fr' := [(1, _), (8, _), (9, _), (10, _), (11, _), (12, _), (13, _), (15, _), (99, _), (100, _), (101, _)]) rfl ?_
  refine KSs_wp ?_
  refine WPs_seq ?_
  refine WPs_block ?_
  refine WPs_seq ?_
  refine WPs_regionK [1, 8, 9, 10, 11, 12, 13, 15, 99, 100, 101, 106] ?_
  refine s_move rfl rfl ?_
  refine c_eql false rfl rfl rfl (by kernel_rfl) ?_
  refine s_move rfl rfl ?_
  refine s_guard_f rfl rfl (by ((rfl))) rfl ?_
  refine s_pick_f rfl rfl rfl ?_
  refine s_assign rfl rfl ?_
  refine SXs_nilK (fr' := [(1, _), (8, _), (9, _), (10, _), (11, _), (12, _), (13, _), (15, _), (99, _), (100, _), (101, _), (106, _)]) rfl ?_
  refine KSs_wp ?_
  refine WPs_condF rfl ?_
  refine WPs_seq ?_
  refine WPs_regionK [1, 8, 9, 10, 11, 12, 13, 15, 99, 100, 101, 112] ?_
  refine s_move rfl rfl ?_
  refine c_leq true rfl rfl rfl (by kernel_rfl) ?_
  refine s_move rfl rfl ?_
  refine s_guard_t2 rfl rfl (by ((rfl))) rfl ?_
  refine s_move rfl rfl ?_
  refine s_guard_t2 rfl rfl (by ((rfl))) rfl ?_
  refine c_leq true rfl rfl rfl (by kernel_rfl) ?_
  refine s_pick_t rfl rfl rfl ?_
  refine s_assign rfl rfl ?_
  refine SXs_nilK (fr' := [(1, _), (8, _), (9, _), (10, _), (11, _), (12, _), (13, _), (15, _), (99, _), (100, _), (101, _), (112, _)]) rfl ?_
  refine KSs_wp ?_
  refine WPs_condT rfl ?_
  refine WPs_regionK [1, 8, 9, 10, 11, 12, 13, 16, 99, 100, 101] ?_
  refine s_move rfl rfl ?_
  refine s_sub' (c := 0) rfl rfl rfl (by kernel_rfl) ?_
  refine s_assign rfl rfl ?_
  refine SXs_nilK (fr' := [(1, _), (8, _), (9, _), (10, _), (11, _), (12, _), (13, _), (16, _), (99, _), (100, _), (101, _)]) rfl ?_
  refine KSs_wp ?_
  refine WPs_seq ?_
  refine WPs_seq ?_
  refine WPs_regionK [1, 8, 9, 10, 11, 12, 13, 16, 99, 100, 101, 137] ?_
  refine s_move rfl rfl ?_
  refine s_move rfl rfl ?_
  refine s_conv (c := 16) Tryz.underlying3 Tryz.underlying5 rfl rfl (by kernel_rfl) ?_
  refine c_geq false rfl rfl rfl (by kernel_rfl) ?_
  refine SXs_nilK (fr' := [(1, _), (8, _), (9, _), (10, _), (11, _), (12, _), (13, _), (16, _), (99, _), (100, _), (101, _), (137, _)]) rfl ?_
  refine KSs_wp ?_
  refine WPs_condF rfl ?_
  refine WPs_skip ?_
  refine KSs_wp ?_
  refine WPs_seq ?_
  refine WPs_seq ?_
  refine WPs_regionK [1, 8, 9, 10, 11, 12, 13, 16, 99, 100, 101, 141] ?_
  refine s_move rfl rfl ?_
  refine s_move rfl rfl ?_
  refine c_geq false rfl rfl rfl (by kernel_rfl) ?_
  refine SXs_nilK (fr' := [(1, _), (8, _), (9, _), (10, _), (11, _), (12, _), (13, _), (16, _), (99, _), (100, _), (101, _), (141, _)]) rfl ?_
  refine KSs_wp ?_
  refine WPs_condF rfl ?_
  refine WPs_skip ?_
  refine KSs_wp ?_
  refine WPs_seq ?_
  refine WPs_regionK [1, 8, 9, 10, 11, 12, 13, 16, 99, 100, 101] ?_
  refine s_move rfl rfl ?_
  refine s_move rfl rfl ?_
  refine s_conv (c := 16) Tryz.underlying3 Tryz.underlying36 rfl rfl (by kernel_rfl) ?_
  refine s_mul' (c := 0) rfl rfl rfl (by kernel_rfl) ?_
  refine s_assign rfl rfl ?_
  refine SXs_nilK (fr' := [(1, _), (8, _), (9, _), (10, _), (11, _), (12, _), (13, _), (16, _), (99, _), (100, _), (101, _)]) rfl ?_
  refine KSs_wp ?_
  refine WPs_seq ?_
  refine WPs_regionK [1, 8, 9, 10, 11, 12, 13, 17, 99, 100, 101] ?_
  refine s_move rfl rfl ?_
  refine s_move rfl rfl ?_
  refine s_conv (c := 0) Tryz.underlying5 Tryz.underlying36 rfl rfl (by kernel_rfl) ?_
  refine s_add' (c := 0) rfl rfl rfl (by kernel_rfl) ?_
  refine s_assign rfl rfl ?_
  refine SXs_nilK (fr' := [(1, _), (8, _), (9, _), (10, _), (11, _), (12, _), (13, _), (17, _), (99, _), (100, _), (101, _)]) rfl ?_
  refine KSs_wp ?_
  refine WPs_seq ?_
  refine WPs_seq ?_
  refine WPs_regionK [1, 8, 9, 10, 11, 12, 17, 99, 100, 101, 159] ?_
  refine s_move rfl rfl ?_
  refine s_move rfl rfl ?_
  refine c_lss false rfl rfl rfl (by kernel_rfl) ?_
  refine s_move rfl rfl ?_
  refine s_guard_t2 rfl rfl (by ((rfl))) rfl ?_
  refine s_move rfl rfl ?_
  refine s_guard_t2 rfl rfl (by ((rfl))) rfl ?_
  refine s_move rfl rfl ?_
  refine s_guard_t2 rfl rfl (by ((rfl))) rfl ?_
  refine c_gtr false rfl rfl rfl (by kernel_rfl) ?_
  refine s_pick_f rfl rfl rfl ?_
  refine SXs_nilK (fr' := [(1, _), (8, _), (9, _), (10, _), (11, _), (12, _), (17, _), (99, _), (100, _), (101, _), (159, _)]) rfl ?_
  refine KSs_wp ?_
  refine WPs_condF rfl ?_
  refine WPs_skip ?_
  refine KSs_wp ?_
  refine WPs_regionK [1, 8, 9, 10, 11, 12, 13, 99, 100, 101] ?_
  refine s_move rfl rfl ?_
  refine s_assign rfl rfl ?_
  refine SXs_nilK (fr' := [(1, _), (8, _), (9, _), (10, _), (11, _), (12, _), (13, _), (99, _), (100, _), (101, _)]) rfl ?_
  refine KSs_wp ?_
  refine WPs_regionK [1, 8, 9, 10, 11, 12, 13, 99, 100, 101] ?_
  refine s_add' (c := 1) rfl rfl rfl (by kernel_rfl) ?_
  refine s_move rfl rfl ?_
  refine SXs_nilK (fr' := [(1, _), (8, _), (9, _), (10, _), (11, _), (12, _), (13, _), (99, _), (100, _), (101, _)]) rfl ?_
  refine KSs_unroll (N := 58) ?_
  refine WPs_seq ?_
  refine WPs_regionK [1, 8, 9, 10, 11, 12, 13, 99, 100, 101, 102] ?_
  refine c_lss true rfl rfl rfl (by kernel_rfl) ?_
  refine SXs_nilK (fr' := [(1, _), (8, _), (9, _), (10, _), (11, _), (12, _), (13, _), (99, _), (100, _), (101, _), (102, _)]) rfl ?_
  refine KSs_wp ?_
  refine WPs_seq ?_
  refine WPs_condT rfl ?_
  refine WPs_skip ?_
  refine KSs_wp ?_
  refine WPs_seq ?_
  refine WPs_block ?_
  refine WPs_seq ?_
  refine WPs_regionK [1, 8, 9, 10, 11, 12, 13, 15, 99, 100, 101] ?_
  refine s_idxRd slt_42 rfl rfl hR99 rfl (by decide) (by decide) (fun b103 o103 hc103 => ?_)
  refine s_load1 (v := .int .u8 48) Tryz.isAgg5 rfl rfl (hc103.at0 rfl) ?_
  refine s_assign rfl rfl ?_
  refine SXs_nilK (fr' := [(1, _), (8, _), (9, _), (10, _), (11, _), (12, _), (13, _), (15, _), (99, _), (100, _), (101, _)]) rfl ?_
  refine KSs_wp ?_
  refine WPs_seq ?_
  refine WPs_regionK [1, 8, 9, 10, 11, 12, 13, 15, 99, 100, 101] ?_
  refine s_assign rfl rfl ?_
  refine SXs_nilK (fr' := [(1, _), (8, _), (9, _), (10, _), (11, _), (12, _), (13, _), (15, _), (99, _), (100, _), (101, _)]) rfl ?_
  refine KSs_wp ?_
  refine WPs_seq ?_
  refine WPs_block ?_
  refine WPs_seq ?_
  refine WPs_regionK [1, 8, 9, 10, 11, 12, 13, 15, 99, 100, 101, 106] ?_
  refine s_move rfl rfl ?_
  refine c_eql false rfl rfl rfl (by kernel_rfl) ?_
  refine s_move rfl rfl ?_
  refine s_guard_f rfl rfl (by ((rfl))) rfl ?_
  refine s_pick_f rfl rfl rfl ?_
  refine s_assign rfl rfl ?_
  refine SXs_nilK (fr' := [(1, _), (8, _), (9, _), (10, _), (11, _), (12, _), (13, _), (15, _), (99, _), (100, _), (101, _), (106, _)]) rfl ?_
  refine KSs_wp ?_
  refine WPs_condF rfl ?_
  refine WPs_seq ?_
  refine WPs_regionK [1, 8, 9, 10, 11, 12, 13, 15, 99, 100, 101, 112] ?_
  refine s_move rfl rfl ?_
  refine c_leq true rfl rfl rfl (by kernel_rfl) ?_
  refine s_move rfl rfl ?_
  refine s_guard_t2 rfl rfl (by ((rfl))) rfl ?_
  refine s_move rfl rfl ?_
  refine s_guard_t2 rfl rfl (by ((rfl))) rfl ?_
  refine c_leq true rfl rfl rfl (by kernel_rfl) ?_
  refine s_pick_t rfl rfl rfl ?_
  refine s_assign rfl rfl ?_
  refine SXs_nilK (fr' := [(1, _), (8, _), (9, _), (10, _), (11, _), (12, _), (13, _), (15, _), (99, _), (100, _), (101, _), (112, _)]) rfl ?_
  refine KSs_wp ?_
  refine WPs_condT rfl ?_
  refine WPs_regionK [1, 8, 9, 10, 11, 12, 13, 16, 99, 100, 101] ?_
  refine s_move rfl rfl ?_
  refine s_sub' (c := 0) rfl rfl rfl (by kernel_rfl) ?_
  refine s_assign rfl rfl ?_
  refine SXs_nilK (fr' := [(1, _), (8, _), (9, _), (10, _), (11, _), (12, _), (13, _), (16, _), (99, _), (100, _), (101, _)]) rfl ?_
  refine KSs_wp ?_
  refine WPs_seq ?_
  refine WPs_seq ?_
  refine WPs_regionK [1, 8, 9, 10, 11, 12, 13, 16, 99, 100, 101, 137] ?_
  refine s_move rfl rfl ?_
  refine s_move rfl rfl ?_
  refine s_conv (c := 16) Tryz.underlying3 Tryz.underlying5 rfl rfl (by kernel_rfl) ?_
  refine c_geq false rfl rfl rfl (by kernel_rfl) ?_
  refine SXs_nilK (fr' := [(1, _), (8, _), (9, _), (10, _), (11, _), (12, _), (13, _), (16, _), (99, _), (100, _), (101, _), (137, _)]) rfl ?_
  refine KSs_wp ?_
  refine WPs_condF rfl ?_
  refine WPs_skip ?_
  refine KSs_wp ?_
  refine WPs_seq ?_
  refine WPs_seq ?_
  refine WPs_regionK [1, 8, 9, 10, 11, 12, 13, 16, 99, 100, 101, 141] ?_
  refine s_move rfl rfl ?_
  refine s_move rfl rfl ?_
  refine c_geq false rfl rfl rfl (by kernel_rfl) ?_
  refine SXs_nilK (fr' := [(1, _), (8, _), (9, _), (10, _), (11, _), (12, _), (13, _), (16, _), (99, _), (100, _), (101, _), (141, _)]) rfl ?_
  refine KSs_wp ?_
  refine WPs_condF rfl ?_
  refine WPs_skip ?_
  refine KSs_wp ?_
  refine WPs_seq ?_
  refine WPs_regionK [1, 8, 9, 10, 11, 12, 13, 16, 99, 100, 101] ?_
  refine s_move rfl rfl ?_
  refine s_move rfl rfl ?_
  refine s_conv (c := 16) Tryz.underlying3 Tryz.underlying36 rfl rfl (by kernel_rfl) ?_
  refine s_mul' (c := 0) rfl rfl rfl (by kernel_rfl) ?_
  refine s_assign rfl rfl ?_
  refine SXs_nilK (fr' := [(1, _), (8, _), (9, _), (10, _), (11, _), (12, _), (13, _), (16, _), (99, _), (100, _), (101, _)]) rfl ?_
  refine KSs_wp ?_
  refine WPs_seq ?_
  refine WPs_regionK [1, 8, 9, 10, 11, 12, 13, 17, 99, 100, 101] ?_
  refine s_move rfl rfl ?_
  refine s_move rfl rfl ?_
  refine s_conv (c := 0) Tryz.underlying5 Tryz.underlying36 rfl rfl (by kernel_rfl) ?_
  refine s_add' (c := 0) rfl rfl rfl (by kernel_rfl) ?_
  refine s_assign rfl rfl ?_
  refine SXs_nilK (fr' := [(1, _), (8, _), (9, _), (10, _), (11, _), (12, _), (13, _), (17, _), (99, _), (100, _), (101, _)]) rfl ?_
  refine KSs_wp ?_
  refine WPs_seq ?_
  refine WPs_seq ?_
  refine WPs_regionK [1, 8, 9, 10, 11, 12, 17, 99, 100, 101, 159] ?_
  refine s_move rfl rfl ?_
  refine s_move rfl rfl ?_
  refine c_lss false rfl rfl rfl (by kernel_rfl) ?_
  refine s_move rfl rfl ?_
  refine s_guard_t2 rfl rfl (by ((rfl))) rfl ?_
  refine s_move rfl rfl ?_
  refine s_guard_t2 rfl rfl (by ((rfl))) rfl ?_
  refine s_move rfl rfl ?_
  refine s_guard_t2 rfl rfl (by ((rfl))) rfl ?_
  refine c_gtr false rfl rfl rfl (by kernel_rfl) ?_
  refine s_pick_f rfl rfl rfl ?_
  refine SXs_nilK (fr' := [(1, _), (8, _), (9, _), (10, _), (11, _), (12, _), (17, _), (99, _), (100, _), (101, _), (159, _)]) rfl ?_
  refine KSs_wp ?_
  refine WPs_condF rfl ?_
  refine WPs_skip ?_
  refine KSs_wp ?_
  refine WPs_regionK [1, 8, 9, 10, 11, 12, 13, 99, 100, 101] ?_
  refine s_move rfl rfl ?_
  refine s_assign rfl rfl ?_
  refine SXs_nilK (fr' := [(1, _), (8, _), (9, _), (10, _), (11, _), (12, _), (13, _), (99, _), (100, _), (101, _)]) rfl ?_
  refine KSs_wp ?_
  refine WPs_regionK [1, 8, 9, 10, 11, 12, 13, 99, 100, 101] ?_
  refine s_add' (c := 2) rfl rfl rfl (by kernel_rfl) ?_
  refine s_move rfl rfl ?_
  refine SXs_nilK (fr' := [(1, _), (8, _), (9, _), (10, _), (11, _), (12, _), (13, _), (99, _), (100, _), (101, _)]) rfl ?_
  refine KSs_unroll (N := 57) ?_
  refine WPs_seq ?_
  refine WPs_regionK [1, 8, 9, 10, 11, 12, 13, 99, 100, 101, 102] ?_
  refine c_lss true rfl rfl rfl (by kernel_rfl) ?_
  refine SXs_nilK (fr' := [(1, _), (8, _), (9, _), (10, _), (11, _), (12, _), (13, _), (99, _), (100, _), (101, _), (102, _)]) rfl ?_
  refine KSs_wp ?_
  refine WPs_seq ?_
  refine WPs_condT rfl ?_
  refine WPs_skip ?_
  refine KSs_wp ?_
  refine WPs_seq ?_
  refine WPs_block ?_
  refine WPs_seq ?_
  refine WPs_regionK [1, 8, 9, 10, 11, 12, 13, 15, 99, 100, 101] ?_
  refine s_idxRd slt_42 rfl rfl hR99 rfl (by decide) (by decide) (fun b103 o103 hc103 => ?_)
  refine s_load1 (v := .int .u8 48) Tryz.isAgg5 rfl rfl (hc103.at0 rfl) ?_
  refine s_assign rfl rfl ?_
  refine SXs_nilK (fr' := [(1, _), (8, _), (9, _), (10, _), (11, _), (12, _), (13, _), (15, _), (99, _), (100, _), (101, _)]) rfl ?_
  refine KSs_wp ?_
  refine WPs_seq ?_
  refine WPs_regionK [1, 8, 9, 10, 11, 12, 13, 15, 99, 100, 101] ?_
  refine s_assign rfl rfl ?_
  refine SXs_nilK (fr' := [(1, _), (8, _), (9, _), (10, _), (11, _), (12, _), (13, _), (15, _), (99, _), (100, _), (101, _)]) rfl ?_
  refine KSs_wp ?_
  refine WPs_seq ?_
  refine WPs_block ?_
  refine WPs_seq ?_
  refine WPs_regionK [1, 8, 9, 10, 11, 12, 13, 15, 99, 100, 101, 106] ?_
  refine s_move rfl rfl ?_
  refine c_eql false rfl rfl rfl (by kernel_rfl) ?_
  refine s_move rfl rfl ?_
  refine s_guard_f rfl rfl (by ((rfl))) rfl ?_
  refine s_pick_f rfl rfl rfl ?_
  refine s_assign rfl rfl ?_
  refine SXs_nilK (fr' := [(1, _), (8, _), (9, _), (10, _), (11, _), (12, _), (13, _), (15, _), (99, _), (100, _), (101, _), (106, _)]) rfl ?_
  refine KSs_wp ?_
  refine WPs_condF rfl ?_
  refine WPs_seq ?_
  refine WPs_regionK [1, 8, 9, 10, 11, 12, 13, 15, 99, 100, 101, 112] ?_
  refine s_move rfl rfl ?_
  refine c_leq true rfl rfl rfl (by kernel_rfl) ?_
  refine s_move rfl rfl ?_
  refine s_guard_t2 rfl rfl (by ((rfl))) rfl ?_
  refine s_move rfl rfl ?_
  refine s_guard_t2 rfl rfl (by ((rfl))) rfl ?_
  refine c_leq true rfl rfl rfl (by kernel_rfl) ?_
  refine s_pick_t rfl rfl rfl ?_
  refine s_assign rfl rfl ?_
  refine SXs_nilK (fr' := [(1, _), (8, _), (9, _), (10, _), (11, _), (12, _), (13, _), (15, _), (99, _), (100, _), (101, _), (112, _)]) rfl ?_
  refine KSs_wp ?_
  refine WPs_condT rfl ?_
  refine WPs_regionK [1, 8, 9, 10, 11, 12, 13, 16, 99, 100, 101] ?_
  refine s_move rfl rfl ?_
  refine s_sub' (c := 0) rfl rfl rfl (by kernel_rfl) ?_
  refine s_assign rfl rfl ?_
  refine SXs_nilK (fr' := [(1, _), (8, _), (9, _), (10, _), (11, _), (12, _), (13, _), (16, _), (99, _), (100, _), (101, _)]) rfl ?_
  refine KSs_wp ?_
  refine WPs_seq ?_
  refine WPs_seq ?_
  refine WPs_regionK [1, 8, 9, 10, 11, 12, 13, 16, 99, 100, 101, 137] ?_
  refine s_move rfl rfl ?_
  refine s_move rfl rfl ?_
  refine s_conv (c := 16) Tryz.underlying3 Tryz.underlying5 rfl rfl (by kernel_rfl) ?_
  refine c_geq false rfl rfl rfl (by kernel_rfl) ?_
  refine SXs_nilK (fr' := [(1, _), (8, _), (9, _), (10, _), (11, _), (12, _), (13, _), (16, _), (99, _), (100, _), (101, _), (137, _)]) rfl ?_
  refine KSs_wp ?_
  refine WPs_condF rfl ?_
  refine WPs_skip ?_
  refine KSs_wp ?_
  refine WPs_seq ?_
  refine WPs_seq ?_
  refine WPs_regionK [1, 8, 9, 10, 11, 12, 13, 16, 99, 100, 101, 141] ?_
  refine s_move rfl rfl ?_
  refine s_move rfl rfl ?_
  refine c_geq false rfl rfl rfl (by kernel_rfl) ?_
  refine SXs_nilK (fr' := [(1, _), (8, _), (9, _), (10, _), (11, _), (12, _), (13, _), (16, _), (99, _), (100, _), (101, _), (141, _)]) rfl ?_
  refine KSs_wp ?_
  refine WPs_condF rfl ?_
  refine WPs_skip ?_
  refine KSs_wp ?_
  refine WPs_seq ?_
  refine WPs_regionK [1, 8, 9, 10, 11, 12, 13, 16, 99, 100, 101] ?_
  refine s_move rfl rfl ?_
  refine s_move rfl rfl ?_
  refine s_conv (c := 16) Tryz.underlying3 Tryz.underlying36 rfl rfl (by kernel_rfl) ?_
  refine s_mul' (c := 0) rfl rfl rfl (by kernel_rfl) ?_
  refine s_assign rfl rfl ?_
  refine SXs_nilK (fr' := [(1, _), (8, _), (9, _), (10, _), (11, _), (12, _), (13, _), (16, _), (99, _), (100, _), (101, _)]) rfl ?_
  refine KSs_wp ?_
  refine WPs_seq ?_
  refine WPs_regionK [1, 8, 9, 10, 11, 12, 13, 17, 99, 100, 101] ?_
  refine s_move rfl rfl ?_
  refine s_move rfl rfl ?_
  refine s_conv (c := 0) Tryz.underlying5 Tryz.underlying36 rfl rfl (by kernel_rfl) ?_
  refine s_add' (c := 0) rfl rfl rfl (by kernel_rfl) ?_
  refine s_assign rfl rfl ?_
  refine SXs_nilK (fr' := [(1, _), (8, _), (9, _), (10, _), (11, _), (12, _), (13, _), (17, _), (99, _), (100, _), (101, _)]) rfl ?_
  refine KSs_wp ?_
  refine WPs_seq ?_
  refine WPs_seq ?_
  refine WPs_regionK [1, 8, 9, 10, 11, 12, 17, 99, 100, 101, 159] ?_
  refine s_move rfl rfl ?_
  refine s_move rfl rfl ?_
  refine c_lss false rfl rfl rfl (by kernel_rfl) ?_
  refine s_move rfl rfl ?_
  refine s_guard_t2 rfl rfl (by ((rfl))) rfl ?_
  refine s_move rfl rfl ?_
  refine s_guard_t2 rfl rfl (by ((rfl))) rfl ?_
  refine s_move rfl rfl ?_
  refine s_guard_t2 rfl rfl (by ((rfl))) rfl ?_
  refine c_gtr false rfl rfl rfl (by kernel_rfl) ?_
  refine s_pick_f rfl rfl rfl ?_
  refine SXs_nilK (fr' := [(1, _), (8, _), (9, _), (10, _), (11, _), (12, _), (17, _), (99, _), (100, _), (101, _), (159, _)]) rfl ?_
  refine KSs_wp ?_
  refine WPs_condF rfl ?_
  refine WPs_skip ?_
  refine KSs_wp ?_
  refine WPs_regionK [1, 8, 9, 10, 11, 12, 13, 99, 100, 101] ?_
  refine s_move rfl rfl ?_
  refine s_assign rfl rfl ?_
  refine SXs_nilK (fr' := [(1, _), (8, _), (9, _), (10, _), (11, _), (12, _), (13, _), (99, _), (100, _), (101, _)]) rfl ?_
  refine KSs_wp ?_
  refine WPs_regionK [1, 8, 9, 10, 11, 12, 13, 99, 100, 101] ?_
  refine s_add' (c := 3) rfl rfl rfl (by kernel_rfl) ?_
  refine s_move rfl rfl ?_
  refine SXs_nilK (fr' := [(1, _), (8, _), (9, _), (10, _), (11, _), (12, _), (13, _), (99, _), (100, _), (101, _)]) rfl ?_
  refine KSs_unroll (N := 56) ?_
  refine WPs_seq ?_
  refine WPs_regionK [1, 8, 9, 10, 11, 12, 13, 99, 100, 101, 102] ?_
  refine c_lss true rfl rfl rfl (by kernel_rfl) ?_
  refine SXs_nilK (fr' := [(1, _), (8, _), (9, _), (10, _), (11, _), (12, _), (13, _), (99, _), (100, _), (101, _), (102, _)]) rfl ?_
  refine KSs_wp ?_
  refine WPs_seq ?_
  refine WPs_condT rfl ?_
  refine WPs_skip ?_
  refine KSs_wp ?_
  refine WPs_seq ?_
  refine WPs_block ?_
  refine WPs_seq ?_
  refine WPs_regionK [1, 8, 9, 10, 11, 12, 13, 15, 99, 100, 101] ?_
  refine s_idxRd slt_42 rfl rfl hR99 rfl (by decide) (by decide) (fun b103 o103 hc103 => ?_)
  refine s_load1 (v := .int .u8 48) Tryz.isAgg5 rfl rfl (hc103.at0 rfl) ?_
  refine s_assign rfl rfl ?_
  refine SXs_nilK (fr' := [(1, _), (8, _), (9, _), (10, _), (11, _), (12, _), (13, _), (15, _), (99, _), (100, _), (101, _)]) rfl ?_
  refine KSs_wp ?_
  refine WPs_seq ?_
  refine WPs_regionK [1, 8, 9, 10, 11, 12, 13, 15, 99, 100, 101] ?_
  refine s_assign rfl rfl ?_
  refine SXs_nilK (fr' := [(1, _), (8, _), (9, _), (10, _), (11, _), (12, _), (13, _), (15, _), (99, _), (100, _), (101, _)]) rfl ?_
  refine KSs_wp ?_
  refine WPs_seq ?_
  refine WPs_block ?_
  refine WPs_seq ?_
  refine WPs_regionK [1, 8, 9, 10, 11, 12, 13, 15, 99, 100, 101, 106] ?_
  refine s_move rfl rfl ?_
  refine c_eql false rfl rfl rfl (by kernel_rfl) ?_
  refine s_move rfl rfl ?_
  refine s_guard_f rfl rfl (by ((rfl))) rfl ?_
  refine s_pick_f rfl rfl rfl ?_
  refine s_assign rfl rfl ?_
  refine SXs_nilK (fr' := [(1, _), (8, _), (9, _), (10, _), (11, _), (12, _), (13, _), (15, _), (99, _), (100, _), (101, _), (106, _)]) rfl ?_
  refine KSs_wp ?_
  refine WPs_condF rfl ?_
  refine WPs_seq ?_
  refine WPs_regionK [1, 8, 9, 10, 11, 12, 13, 15, 99, 100, 101, 112] ?_
  refine s_move rfl rfl ?_
  refine c_leq true rfl rfl rfl (by kernel_rfl) ?_
  refine s_move rfl rfl ?_
  refine s_guard_t2 rfl rfl (by ((rfl))) rfl ?_
  refine s_move rfl rfl ?_
  refine s_guard_t2 rfl rfl (by ((rfl))) rfl ?_
  refine c_leq true rfl rfl rfl (by kernel_rfl) ?_
  refine s_pick_t rfl rfl rfl ?_
  refine s_assign rfl rfl ?_
  refine SXs_nilK (fr' := [(1, _), (8, _), (9, _), (10, _), (11, _), (12, _), (13, _), (15, _), (99, _), (100, _), (101, _), (112, _)]) rfl ?_
  refine KSs_wp ?_
  refine WPs_condT rfl ?_
  refine WPs_regionK [1, 8, 9, 10, 11, 12, 13, 16, 99, 100, 101] ?_
  refine s_move rfl rfl ?_
  refine s_sub' (c := 0) rfl rfl rfl (by kernel_rfl) ?_
  refine s_assign rfl rfl ?_
  refine SXs_nilK (fr' := [(1, _), (8, _), (9, _), (10, _), (11, _), (12, _), (13, _), (16, _), (99, _), (100, _), (101, _)]) rfl ?_
  refine KSs_wp ?_
  refine WPs_seq ?_
  refine WPs_seq ?_
  refine WPs_regionK [1, 8, 9, 10, 11, 12, 13, 16, 99, 100, 101, 137] ?_
  refine s_move rfl rfl ?_
  refine s_move rfl rfl ?_
  refine s_conv (c := 16) Tryz.underlying3 Tryz.underlying5 rfl rfl (by kernel_rfl) ?_
  refine c_geq false rfl rfl rfl (by kernel_rfl) ?_
  refine SXs_nilK (fr' := [(1, _), (8, _), (9, _), (10, _), (11, _), (12, _), (13, _), (16, _), (99, _), (100, _), (101, _), (137, _)]) rfl ?_
  refine KSs_wp ?_
  refine WPs_condF rfl ?_
  refine WPs_skip ?_
  refine KSs_wp ?_
  refine WPs_seq ?_
  refine WPs_seq ?_
  refine WPs_regionK [1, 8, 9, 10, 11, 12, 13, 16, 99, 100, 101, 141] ?_
  refine s_move rfl rfl ?_
  refine s_move rfl rfl ?_
  refine c_geq false rfl rfl rfl (by kernel_rfl) ?_
  refine SXs_nilK (fr' := [(1, _), (8, _), (9, _), (10, _), (11, _), (12, _), (13, _), (16, _), (99, _), (100, _), (101, _), (141, _)]) rfl ?_
  refine KSs_wp ?_
  refine WPs_condF rfl ?_
  refine WPs_skip ?_
  refine KSs_wp ?_
  refine WPs_seq ?_
  refine WPs_regionK [1, 8, 9, 10, 11, 12, 13, 16, 99, 100, 101] ?_
  refine s_move rfl rfl ?_
  refine s_move rfl rfl ?_
  refine s_conv (c := 16) Tryz.underlying3 Tryz.underlying36 rfl rfl (by kernel_rfl) ?_
  refine s_mul' (c := 0) rfl rfl rfl (by kernel_rfl) ?_
  refine s_assign rfl rfl ?_
  refine SXs_nilK (fr' := [(1, _), (8, _), (9, _), (10, _), (11, _), (12, _), (13, _), (16, _), (99, _), (100, _), (101, _)]) rfl ?_
  refine KSs_wp ?_
  refine WPs_seq ?_
  refine WPs_regionK [1, 8, 9, 10, 11, 12, 13, 17, 99, 100, 101] ?_
  refine s_move rfl rfl ?_
  refine s_move rfl rfl ?_
  refine s_conv (c := 0) Tryz.underlying5 Tryz.underlying36 rfl rfl (by kernel_rfl) ?_
  refine s_add' (c := 0) rfl rfl rfl (by kernel_rfl) ?_
  refine s_assign rfl rfl ?_
  refine SXs_nilK (fr' := [(1, _), (8, _), (9, _), (10, _), (11, _), (12, _), (13, _), (17, _), (99, _), (100, _), (101, _)]) rfl ?_
  refine KSs_wp ?_
  refine WPs_seq ?_
  refine WPs_seq ?_
  refine WPs_regionK [1, 8, 9, 10, 11, 12, 17, 99, 100, 101, 159] ?_
  refine s_move rfl rfl ?_
  refine s_move rfl rfl ?_
  refine c_lss false rfl rfl rfl (by kernel_rfl) ?_
  refine s_move rfl rfl ?_
  refine s_guard_t2 rfl rfl (by ((rfl))) rfl ?_
  refine s_move rfl rfl ?_
  refine s_guard_t2 rfl rfl (by ((rfl))) rfl ?_
  refine s_move rfl rfl ?_
  refine s_guard_t2 rfl rfl (by ((rfl))) rfl ?_
  refine c_gtr false rfl rfl rfl (by kernel_rfl) ?_
  refine s_pick_f rfl rfl rfl ?_
  refine SXs_nilK (fr' := [(1, _), (8, _), (9, _), (10, _), (11, _), (12, _), (17, _), (99, _), (100, _), (101, _), (159, _)]) rfl ?_
  refine KSs_wp ?_
  refine WPs_condF rfl ?_
  refine WPs_skip ?_
  refine KSs_wp ?_
  refine WPs_regionK [1, 8, 9, 10, 11, 12, 13, 99, 100, 101] ?_
  refine s_move rfl rfl ?_
  refine s_assign rfl rfl ?_
  refine SXs_nilK (fr' := [(1, _), (8, _), (9, _), (10, _), (11, _), (12, _), (13, _), (99, _), (100, _), (101, _)]) rfl ?_
  refine KSs_wp ?_
  refine WPs_regionK [1, 8, 9, 10, 11, 12, 13, 99, 100, 101] ?_
  refine s_add' (c := 4) rfl rfl rfl (by kernel_rfl) ?_
  refine s_move rfl rfl ?_
  refine SXs_nilK (fr' := [(1, _), (8, _), (9, _), (10, _), (11, _), (12, _), (13, _), (99, _), (100, _), (101, _)]) rfl ?_
  refine KSs_unroll (N := 55) ?_
  refine WPs_seq ?_
  refine WPs_regionK [1, 8, 9, 10, 11, 12, 13, 99, 100, 101, 102] ?_
  refine c_lss true rfl rfl rfl (by kernel_rfl) ?_
  refine SXs_nilK (fr' := [(1, _), (8, _), (9, _), (10, _), (11, _), (12, _), (13, _), (99, _), (100, _), (101, _), (102, _)]) rfl ?_
  refine KSs_wp ?_
  refine WPs_seq ?_
  refine WPs_condT rfl ?_
  refine WPs_skip ?_
  refine KSs_wp ?_
  refine WPs_seq ?_
  refine WPs_block ?_
  refine WPs_seq ?_
  refine WPs_regionK [1, 8, 9, 10, 11, 12, 13, 15, 99, 100, 101] ?_
  refine s_idxRd slt_42 rfl rfl hR99 rfl (by decide) (by decide) (fun b103 o103 hc103 => ?_)
  refine s_load1 (v := .int .u8 102) Tryz.isAgg5 rfl rfl (hc103.at0 rfl) ?_
  refine s_assign rfl rfl ?_
  refine SXs_nilK (fr' := [(1, _), (8, _), (9, _), (10, _), (11, _), (12, _), (13, _), (15, _), (99, _), (100, _), (101, _)]) rfl ?_
  refine KSs_wp ?_
  refine WPs_seq ?_
  refine WPs_regionK [1, 8, 9, 10, 11, 12, 13, 15, 99, 100, 101] ?_
  refine s_assign rfl rfl ?_
  refine SXs_nilK (fr' := [(1, _), (8, _), (9, _), (10, _), (11, _), (12, _), (13, _), (15, _), (99, _), (100, _), (101, _)]) rfl ?_
  refine KSs_wp ?_
  refine WPs_seq ?_
  refine WPs_block ?_
  refine WPs_seq ?_
  refine WPs_regionK [1, 8, 9, 10, 11, 12, 13, 15, 99, 100, 101, 106] ?_
  refine s_move rfl rfl ?_
  refine c_eql false rfl rfl rfl (by kernel_rfl) ?_
  refine s_move rfl rfl ?_
  refine s_guard_f rfl rfl (by ((rfl))) rfl ?_
  refine s_pick_f rfl rfl rfl ?_
  refine s_assign rfl rfl ?_
  refine SXs_nilK (fr' := [(1, _), (8, _), (9, _), (10, _), (11, _), (12, _), (13, _), (15, _), (99, _), (100, _), (101, _), (106, _)]) rfl ?_
  refine KSs_wp ?_
  refine WPs_condF rfl ?_
  refine WPs_seq ?_
  refine WPs_regionK [1, 8, 9, 10, 11, 12, 13, 15, 99, 100, 101, 112] ?_
  refine s_move rfl rfl ?_
  refine c_leq true rfl rfl rfl (by kernel_rfl) ?_
  refine s_move rfl rfl ?_
  refine s_guard_t2 rfl rfl (by ((rfl))) rfl ?_
  refine s_move rfl rfl ?_
  refine s_guard_t2 rfl rfl (by ((rfl))) rfl ?_
  refine c_leq false rfl rfl rfl (by kernel_rfl) ?_
  refine s_pick_t rfl rfl rfl ?_
  refine s_assign rfl rfl ?_
  refine SXs_nilK (fr' := [(1, _), (8, _), (9, _), (10, _), (11, _), (12, _), (13, _), (15, _), (99, _), (100, _), (101, _), (112, _)]) rfl ?_
  refine KSs_wp ?_
  refine WPs_condF rfl ?_
  refine WPs_seq ?_
  refine WPs_regionK [1, 8, 9, 10, 11, 12, 13, 15, 99, 100, 101, 121] ?_
  refine s_move rfl rfl ?_
  refine s_call Tryz.call141 rfl (vs := [_]) rfl (RCs.perm (by (repeat ((exact List.Perm.refl _)))) (clF2_141_0)) ?_
  rintro v w ⟨rfl, hS⟩
  refine SXs_go hS ?_
  clear hS; clear w
  simp only [putF]
  refine c_leq true rfl rfl rfl (by kernel_rfl) ?_
  refine s_move rfl rfl ?_
  refine s_guard_t2 rfl rfl (by ((rfl))) rfl ?_
  refine s_move rfl rfl ?_
  refine s_guard_t2 rfl rfl (by ((rfl))) rfl ?_
  refine s_call Tryz.call141 rfl (vs := [_]) rfl (RCs.perm (by (repeat ((exact List.Perm.refl _)))) (clF2_141_0)) ?_
  rintro v w ⟨rfl, hS⟩
  refine SXs_go hS ?_
  clear hS; clear w
  simp only [putF]
  refine s_guard_t2 rfl rfl (by ((rfl))) rfl ?_
  refine c_leq true rfl rfl rfl (by kernel_rfl) ?_
  refine s_pick_t rfl rfl rfl ?_
  refine s_assign rfl rfl ?_
  refine SXs_nilK (fr' := [(1, _), (8, _), (9, _), (10, _), (11, _), (12, _), (13, _), (15, _), (99, _), (100, _), (101, _), (121, _)]) rfl ?_
  refine KSs_wp ?_
  refine WPs_condT rfl ?_
  refine WPs_regionK [1, 8, 9, 10, 11, 12, 13, 16, 99, 100, 101] ?_
  refine s_move rfl rfl ?_
  refine s_call Tryz.call141 rfl (vs := [_]) rfl (RCs.perm (by (repeat ((exact List.Perm.refl _)))) (clF2_141_0)) ?_
  rintro v w ⟨rfl, hS⟩
  refine SXs_go hS ?_
  clear hS; clear w
  simp only [putF]
  refine s_sub' (c := 5) rfl rfl rfl (by kernel_rfl) ?_
  refine s_add' (c := 15) rfl rfl rfl (by kernel_rfl) ?_
  refine s_assign rfl rfl ?_
  refine SXs_nilK (fr' := [(1, _), (8, _), (9, _), (10, _), (11, _), (12, _), (13, _), (16, _), (99, _), (100, _), (101, _)]) rfl ?_
  refine KSs_wp ?_
  refine WPs_seq ?_
  refine WPs_seq ?_
  refine WPs_regionK [1, 8, 9, 10, 11, 12, 13, 16, 99, 100, 101, 137] ?_
  refine s_move rfl rfl ?_
  refine s_move rfl rfl ?_
  refine s_conv (c := 16) Tryz.underlying3 Tryz.underlying5 rfl rfl (by kernel_rfl) ?_
  refine c_geq false rfl rfl rfl (by kernel_rfl) ?_
  refine SXs_nilK (fr' := [(1, _), (8, _), (9, _), (10, _), (11, _), (12, _), (13, _), (16, _), (99, _), (100, _), (101, _), (137, _)]) rfl ?_
  refine KSs_wp ?_
  refine WPs_condF rfl ?_
  refine WPs_skip ?_
  refine KSs_wp ?_
  refine WPs_seq ?_
  refine WPs_seq ?_
  refine WPs_regionK [1, 8, 9, 10, 11, 12, 13, 16, 99, 100, 101, 141] ?_
  refine s_move rfl rfl ?_
  refine s_move rfl rfl ?_
  refine c_geq false rfl rfl rfl (by kernel_rfl) ?_
  refine SXs_nilK (fr' := [(1, _), (8, _), (9, _), (10, _), (11, _), (12, _), (13, _), (16, _), (99, _), (100, _), (101, _), (141, _)]) rfl ?_
  refine KSs_wp ?_
  refine WPs_condF rfl ?_
  refine WPs_skip ?_
  refine KSs_wp ?_
  refine WPs_seq ?_
  refine WPs_regionK [1, 8, 9, 10, 11, 12, 13, 16, 99, 100, 101] ?_
  refine s_move rfl rfl ?_
  refine s_move rfl rfl ?_
  refine s_conv (c := 16) Tryz.underlying3 Tryz.underlying36 rfl rfl (by kernel_rfl) ?_
  refine s_mul' (c := 0) rfl rfl rfl (by kernel_rfl) ?_
  refine s_assign rfl rfl ?_
  refine SXs_nilK (fr' := [(1, _), (8, _), (9, _), (10, _), (11, _), (12, _), (13, _), (16, _), (99, _), (100, _), (101, _)]) rfl ?_
  refine KSs_wp ?_
  refine WPs_seq ?_
  refine WPs_regionK [1, 8, 9, 10, 11, 12, 13, 17, 99, 100, 101] ?_
  refine s_move rfl rfl ?_
  refine s_move rfl rfl ?_
  refine s_conv (c := 15) Tryz.underlying5 Tryz.underlying36 rfl rfl (by kernel_rfl) ?_
  refine s_add' (c := 15) rfl rfl rfl (by kernel_rfl) ?_
  refine s_assign rfl rfl ?_
  refine SXs_nilK (fr' := [(1, _), (8, _), (9, _), (10, _), (11, _), (12, _), (13, _), (17, _), (99, _), (100, _), (101, _)]) rfl ?_
  refine KSs_wp ?_
  refine WPs_seq ?_
  refine WPs_seq ?_
  refine WPs_regionK [1, 8, 9, 10, 11, 12, 17, 99, 100, 101, 159] ?_
  refine s_move rfl rfl ?_
  refine s_move rfl rfl ?_
  refine c_lss false rfl rfl rfl (by kernel_rfl) ?_
  refine s_move rfl rfl ?_
  refine s_guard_t2 rfl rfl (by ((rfl))) rfl ?_
  refine s_move rfl rfl ?_
  refine s_guard_t2 rfl rfl (by ((rfl))) rfl ?_
  refine s_move rfl rfl ?_
  refine s_guard_t2 rfl rfl (by ((rfl))) rfl ?_
  refine c_gtr false rfl rfl rfl (by kernel_rfl) ?_
  refine s_pick_f rfl rfl rfl ?_
  refine SXs_nilK (fr' := [(1, _), (8, _), (9, _), (10, _), (11, _), (12, _), (17, _), (99, _), (100, _), (101, _), (159, _)]) rfl ?_
  refine KSs_wp ?_
  refine WPs_condF rfl ?_
  refine WPs_skip ?_
  refine KSs_wp ?_
  refine WPs_regionK [1, 8, 9, 10, 11, 12, 13, 99, 100, 101] ?_
  refine s_move rfl rfl ?_
  refine s_assign rfl rfl ?_
  refine SXs_nilK (fr' := [(1, _), (8, _), (9, _), (10, _), (11, _), (12, _), (13, _), (99, _), (100, _), (101, _)]) rfl ?_
  refine KSs_wp ?_
  refine WPs_regionK [1, 8, 9, 10, 11, 12, 13, 99, 100, 101] ?_
  refine s_add' (c := 5) rfl rfl rfl (by kernel_rfl) ?_
  refine s_move rfl rfl ?_
  refine SXs_nilK (fr' := [(1, _), (8, _), (9, _), (10, _), (11, _), (12, _), (13, _), (99, _), (100, _), (101, _)]) rfl ?_
  refine KSs_unroll (N := 54) ?_
  refine WPs_seq ?_
  refine WPs_regionK [1, 8, 9, 10, 11, 12, 13, 99, 100, 101, 102] ?_
  refine c_lss true rfl rfl rfl (by kernel_rfl) ?_
  refine SXs_nilK (fr' := [(1, _), (8, _), (9, _), (10, _), (11, _), (12, _), (13, _), (99, _), (100, _), (101, _), (102, _)]) rfl ?_
  refine KSs_wp ?_
  refine WPs_seq ?_
  refine WPs_condT rfl ?_
  refine WPs_skip ?_
  refine KSs_wp ?_
  refine WPs_seq ?_
  refine WPs_block ?_
  refine WPs_seq ?_
  refine WPs_regionK [1, 8, 9, 10, 11, 12, 13, 15, 99, 100, 101] ?_
  refine s_idxRd slt_42 rfl rfl hR99 rfl (by decide) (by decide) (fun b103 o103 hc103 => ?_)
  refine s_load1 (v := .int .u8 102) Tryz.isAgg5 rfl rfl (hc103.at0 rfl) ?_
  refine s_assign rfl rfl ?_
  refine SXs_nilK (fr' := [(1, _), (8, _), (9, _), (10, _), (11, _), (12, _), (13, _), (15, _), (99, _), (100, _), (101, _)]) rfl ?_
  refine KSs_wp ?_
  refine WPs_seq ?_
  refine WPs_regionK [1, 8, 9, 10, 11, 12, 13, 15, 99, 100, 101] ?_
  refine s_assign rfl rfl ?_
  refine SXs_nilK (fr' := [(1, _), (8, _), (9, _), (10, _), (11, _), (12, _), (13, _), (15, _), (99, _), (100, _), (101, _)]) rfl ?_
  refine KSs_wp ?_
  refine WPs_seq ?_
  refine WPs_block ?_
  refine WPs_seq ?_
  refine WPs_regionK [1, 8, 9, 10, 11, 12, 13, 15, 99, 100, 101, 106] ?_
  refine s_move rfl rfl ?_
  refine c_eql false rfl rfl rfl (by kernel_rfl) ?_
  refine s_move rfl rfl ?_
  refine s_guard_f rfl rfl (by ((rfl))) rfl ?_
  refine s_pick_f rfl rfl rfl ?_
  refine s_assign rfl rfl ?_
  refine SXs_nilK (fr' := [(1, _), (8, _), (9, _), (10, _), (11, _), (12, _), (13, _), (15, _), (99, _), (100, _), (101, _), (106, _)]) rfl ?_
  refine KSs_wp ?_
  refine WPs_condF rfl ?_
  refine WPs_seq ?_
  refine WPs_regionK [1, 8, 9, 10, 11, 12, 13, 15, 99, 100, 101, 112] ?_
  refine s_move rfl rfl ?_
  refine c_leq true rfl rfl rfl (by kernel_rfl) ?_
  refine s_move rfl rfl ?_
  refine s_guard_t2 rfl rfl (by ((rfl))) rfl ?_
  refine s_move rfl rfl ?_
  refine s_guard_t2 rfl rfl (by ((rfl))) rfl ?_
  refine c_leq false rfl rfl rfl (by kernel_rfl) ?_
  refine s_pick_t rfl rfl rfl ?_
  refine s_assign rfl rfl ?_
  refine SXs_nilK (fr' := [(1, _), (8, _), (9, _), (10, _), (11, _), (12, _), (13, _), (15, _), (99, _), (100, _), (101, _), (112, _)]) rfl ?_
  refine KSs_wp ?_
  refine WPs_condF rfl ?_
  refine WPs_seq ?_
  refine WPs_regionK [1, 8, 9, 10, 11, 12, 13, 15, 99, 100, 101, 121] ?_
  refine s_move rfl rfl ?_
  refine s_call Tryz.call141 rfl (vs := [_]) rfl (RCs.perm (by (repeat ((exact List.Perm.refl _)))) (clF2_141_0)) ?_
  rintro v w ⟨rfl, hS⟩
  refine SXs_go hS ?_
  clear hS; clear w
  simp only [putF]
  refine c_leq true rfl rfl rfl (by kernel_rfl) ?_
  refine s_move rfl rfl ?_
  refine s_guard_t2 rfl rfl (by ((rfl))) rfl ?_
  refine s_move rfl rfl ?_
  refine s_guard_t2 rfl rfl (by ((rfl))) rfl ?_
  refine s_call Tryz.call141 rfl (vs := [_]) rfl (RCs.perm (by (repeat ((exact List.Perm.refl _)))) (clF2_141_0)) ?_
  rintro v w ⟨rfl, hS⟩
  refine SXs_go hS ?_
  clear hS; clear w
  simp only [putF]
  refine s_guard_t2 rfl rfl (by ((rfl))) rfl ?_
  refine c_leq true rfl rfl rfl (by kernel_rfl) ?_
  refine s_pick_t rfl rfl rfl ?_
  refine s_assign rfl rfl ?_
  refine SXs_nilK (fr' := [(1, _), (8, _), (9, _), (10, _), (11, _), (12, _), (13, _), (15, _), (99, _), (100, _), (101, _), (121, _)]) rfl ?_
  refine KSs_wp ?_
  refine WPs_condT rfl ?_
  refine WPs_regionK [1, 8, 9, 10, 11, 12, 13, 16, 99, 100, 101] ?_
  refine s_move rfl rfl ?_
  refine s_call Tryz.call141 rfl (vs := [_]) rfl (RCs.perm (by (repeat ((exact List.Perm.refl _)))) (clF2_141_0)) ?_
  rintro v w ⟨rfl, hS⟩
  refine SXs_go hS ?_
  clear hS; clear w
  simp only [putF]
  refine s_sub' (c := 5) rfl rfl rfl (by kernel_rfl) ?_
  refine s_add' (c := 15) rfl rfl rfl (by kernel_rfl) ?_
  refine s_assign rfl rfl ?_
  refine SXs_nilK (fr' := [(1, _), (8, _), (9, _), (10, _), (11, _), (12, _), (13, _), (16, _), (99, _), (100, _), (101, _)]) rfl ?_
  refine KSs_wp ?_
  refine WPs_seq ?_
  refine WPs_seq ?_
  refine WPs_regionK [1, 8, 9, 10, 11, 12, 13, 16, 99, 100, 101, 137] ?_
  refine s_move rfl rfl ?_
  refine s_move rfl rfl ?_
  refine s_conv (c := 16) Tryz.underlying3 Tryz.underlying5 rfl rfl (by kernel_rfl) ?_
  refine c_geq false rfl rfl rfl (by kernel_rfl) ?_
  refine SXs_nilK (fr' := [(1, _), (8, _), (9, _), (10, _), (11, _), (12, _), (13, _), (16, _), (99, _), (100, _), (101, _), (137, _)]) rfl ?_
  refine KSs_wp ?_
  refine WPs_condF rfl ?_
  refine WPs_skip ?_
  refine KSs_wp ?_
  refine WPs_seq ?_
  refine WPs_seq ?_
  refine WPs_regionK [1, 8, 9, 10, 11, 12, 13, 16, 99, 100, 101, 141] ?_
  refine s_move rfl rfl ?_
  refine s_move rfl rfl ?_
  refine c_geq false rfl rfl rfl (by kernel_rfl) ?_
  refine SXs_nilK (fr' := [(1, _), (8, _), (9, _), (10, _), (11, _), (12, _), (13, _), (16, _), (99, _), (100, _), (101, _), (141, _)]) rfl ?_
  refine KSs_wp ?_
  refine WPs_condF rfl ?_
  refine WPs_skip ?_
  refine KSs_wp ?_
  refine WPs_seq ?_
  refine WPs_regionK [1, 8, 9, 10, 11, 12, 13, 16, 99, 100, 101] ?_
  refine s_move rfl rfl ?_
  refine s_move rfl rfl ?_
  refine s_conv (c := 16) Tryz.underlying3 Tryz.underlying36 rfl rfl (by kernel_rfl) ?_
  refine s_mul' (c := 240) rfl rfl rfl (by kernel_rfl) ?_
  refine s_assign rfl rfl ?_
  refine SXs_nilK (fr' := [(1, _), (8, _), (9, _), (10, _), (11, _), (12, _), (13, _), (16, _), (99, _), (100, _), (101, _)]) rfl ?_
  refine KSs_wp ?_
  refine WPs_seq ?_
  refine WPs_regionK [1, 8, 9, 10, 11, 12, 13, 17, 99, 100, 101] ?_
  refine s_move rfl rfl ?_
  refine s_move rfl rfl ?_
  refine s_conv (c := 15) Tryz.underlying5 Tryz.underlying36 rfl rfl (by kernel_rfl) ?_
  refine s_add' (c := 255) rfl rfl rfl (by kernel_rfl) ?_
  refine s_assign rfl rfl ?_
  refine SXs_nilK (fr' := [(1, _), (8, _), (9, _), (10, _), (11, _), (12, _), (13, _), (17, _), (99, _), (100, _), (101, _)]) rfl ?_
  refine KSs_wp ?_
  refine WPs_seq ?_
  refine WPs_seq ?_
  refine WPs_regionK [1, 8, 9, 10, 11, 12, 17, 99, 100, 101, 159] ?_
  refine s_move rfl rfl ?_
  refine s_move rfl rfl ?_
  refine c_lss false rfl rfl rfl (by kernel_rfl) ?_
  refine s_move rfl rfl ?_
  refine s_guard_t2 rfl rfl (by ((rfl))) rfl ?_
  refine s_move rfl rfl ?_
  refine s_guard_t2 rfl rfl (by ((rfl))) rfl ?_
  refine s_move rfl rfl ?_
  refine s_guard_t2 rfl rfl (by ((rfl))) rfl ?_
  refine c_gtr false rfl rfl rfl (by kernel_rfl) ?_
  refine s_pick_f rfl rfl rfl ?_
  refine SXs_nilK (fr' := [(1, _), (8, _), (9, _), (10, _), (11, _), (12, _), (17, _), (99, _), (100, _), (101, _), (159, _)]) rfl ?_
  refine KSs_wp ?_
  refine WPs_condF rfl ?_
  refine WPs_skip ?_
  refine KSs_wp ?_
  refine WPs_regionK [1, 8, 9, 10, 11, 12, 13, 99, 100, 101] ?_
  refine s_move rfl rfl ?_
  refine s_assign rfl rfl ?_
  refine SXs_nilK (fr' := [(1, _), (8, _), (9, _), (10, _), (11, _), (12, _), (13, _), (99, _), (100, _), (101, _)]) rfl ?_
  refine KSs_wp ?_
  refine WPs_regionK [1, 8, 9, 10, 11, 12, 13, 99, 100, 101] ?_
  refine s_add' (c := 6) rfl rfl rfl (by kernel_rfl) ?_
  refine s_move rfl rfl ?_
  refine SXs_nilK (fr' := [(1, _), (8, _), (9, _), (10, _), (11, _), (12, _), (13, _), (99, _), (100, _), (101, _)]) rfl ?_
  refine KSs_unroll (N := 53) ?_
  refine WPs_seq ?_
  refine WPs_regionK [1, 8, 9, 10, 11, 12, 13, 99, 100, 101, 102] ?_
  refine c_lss false rfl rfl rfl (by kernel_rfl) ?_
  refine SXs_nilK (fr' := [(1, _), (8, _), (9, _), (10, _), (11, _), (12, _), (13, _), (99, _), (100, _), (101, _), (102, _)]) rfl ?_
  refine KSs_wp ?_
  refine WPs_seq ?_
  refine WPs_condF rfl ?_
  refine WPs_exit rfl ?_
  refine KSs_wp ?_
  refine WPs_seq ?_
  refine WPs_seq ?_
  refine WPs_regionK [13, 169] ?_
  refine s_move rfl rfl ?_
  refine s_move rfl rfl ?_
  refine s_guard_f rfl rfl (by ((rfl))) rfl ?_
  refine s_guard_f rfl rfl (by ((rfl))) rfl ?_
  refine s_guard_f rfl rfl (by ((rfl))) rfl ?_
  refine s_pick_f rfl rfl rfl ?_
  refine SXs_nilK (fr' := [(13, _), (169, _)]) rfl ?_
  refine KSs_wp ?_
  refine WPs_condF rfl ?_
  refine WPs_skip ?_
  refine KSs_wp ?_
  refine WPs_seq ?_
  refine WPs_regionK [6, 7] ?_
  refine s_move rfl rfl ?_
  refine s_assign rfl rfl ?_
  refine s_assign rfl rfl ?_
  refine SXs_nilK (fr' := [(6, _), (7, _)]) rfl ?_
  refine KSs_wp ?_
  refine WPs_ret ?_
  refine RLs_start ?_
  refine RLs_tmp rfl ?_
  refine RLs_tmp rfl ?_
  refine RLs_fin2 ?_
  exact fun w hS => ⟨rfl, hS.sl (by (repeat (first | exact Sl.refl _ | refine Sl.skip ?_)))⟩

/-- strconv.ParseUint -/
theorem clF2_61_0 {g : World} {F : List HP} : RCs Tryz.prog 61 [(.string ⟨#[48, 48, 48, 48, 102, 102]⟩), (.int .i64 16), (.int .i64 32)] g F (fun u w => u = .tuple #[(.int .u64 255), .nilIface] ∧ St g w F) := by
  refine RCs_of_WPs Tryz.func61 rfl Tryz.ntmps61 rfl Tryz.results61 ?_
  refine WPs_seq ?_
  refine WPs_regionK [0, 1, 2] ?_
  refine s_assign rfl rfl ?_
  refine s_assign rfl rfl ?_
  refine SXs_nilK (fr' := [(0, _), (1, _), (2, _)]) rfl ?_
  refine KSs_wp ?_
  refine WPs_seq ?_
  refine WPs_regionK [0, 1, 2, 8, 9] ?_
  refine s_move rfl rfl ?_
  refine s_move rfl rfl ?_
  refine s_move rfl rfl ?_
  refine s_call Tryz.call109 rfl (vs := [_, _, _]) rfl (RCs.perm (by (repeat ((exact List.Perm.refl _)))) (clF2_109_0)) ?_
  rintro v w ⟨rfl, hS⟩
  refine SXs_go hS ?_
  clear hS; clear w
  simp only [putF]
  refine s_move rfl rfl ?_
  refine s_extract rfl rfl rfl ?_
  refine s_extract rfl rfl rfl ?_
  refine s_assign rfl rfl ?_
  refine s_assign rfl rfl ?_
  refine SXs_nilK (fr' := [(0, _), (1, _), (2, _), (8, _), (9, _)]) rfl ?_
  refine KSs_wp ?_
  refine WPs_seq ?_
  refine WPs_seq ?_
  refine WPs_regionK [0, 1, 2, 8, 9, 18] ?_
  refine s_move rfl rfl ?_
  refine c_ifcNeq Tryz.underlying117 rfl rfl ?_
  refine SXs_nilK (fr' := [(0, _), (1, _), (2, _), (8, _), (9, _), (18, _)]) rfl ?_
  refine KSs_wp ?_
  refine WPs_condF rfl ?_
  refine WPs_skip ?_
  refine KSs_wp ?_
  refine WPs_seq ?_
  refine WPs_regionK [6, 7] ?_
  refine s_move rfl rfl ?_
  refine s_assign rfl rfl ?_
  refine s_assign rfl rfl ?_
  refine SXs_nilK (fr' := [(6, _), (7, _)]) rfl ?_
  refine KSs_wp ?_
  refine WPs_ret ?_
  refine RLs_start ?_
  refine RLs_tmp rfl ?_
  refine RLs_tmp rfl ?_
  refine RLs_fin2 ?_
  exact fun w hS => ⟨rfl, hS.sl (by (repeat ((exact Sl.refl _))))⟩

/-- hourbook/seg.is -/
theorem clF2_32_0 {g : World} {F : List HP} : RCs Tryz.prog 32 [(.int .u32 255)] g F (fun u w => u = (.bool true) ∧ St g w F) := by
  refine RCs_of_WPs Tryz.func32 rfl Tryz.ntmps32 rfl Tryz.results32 ?_
  refine WPs_seq ?_
  refine WPs_regionK [0] ?_
  refine s_assign rfl rfl ?_
  refine SXs_nilK (fr' := [(0, _)]) rfl ?_
  refine KSs_wp ?_
  refine WPs_seq ?_
  refine WPs_regionK [2] ?_
  refine s_move rfl rfl ?_
  refine c_geq true rfl rfl rfl (by kernel_rfl) ?_
  refine s_move rfl rfl ?_
  refine s_guard_t2 rfl rfl (by ((rfl))) rfl ?_
  refine s_move rfl rfl ?_
  refine s_guard_t2 rfl rfl (by ((rfl))) rfl ?_
  refine c_leq true rfl rfl rfl (by kernel_rfl) ?_
  refine s_pick_t rfl rfl rfl ?_
  refine s_assign rfl rfl ?_
  refine SXs_nilK (fr' := [(2, _)]) rfl ?_
  refine KSs_wp ?_
  refine WPs_ret ?_
  refine RLs_start ?_
  refine RLs_tmp rfl ?_
  refine RLs_fin1 ?_
  exact fun w hS => ⟨rfl, hS.sl (by (repeat ((exact Sl.refl _))))⟩

/-- internal/strconv.isPowerOfTwo -/
theorem clF2_155_0 {g : World} {F : List HP} : RCs Tryz.prog 155 [(.int .i64 16)] g F (fun u w => u = (.bool true) ∧ St g w F) := by
  refine RCs_of_WPs Tryz.func155 rfl Tryz.ntmps155 rfl Tryz.results155 ?_
  refine WPs_seq ?_
  refine WPs_regionK [0] ?_
  refine s_assign rfl rfl ?_
  refine SXs_nilK (fr' := [(0, _)]) rfl ?_
  refine KSs_wp ?_
  refine WPs_seq ?_
  refine WPs_regionK [2] ?_
  refine s_move rfl rfl ?_
  refine s_move rfl rfl ?_
  refine s_sub' (c := 15) rfl rfl rfl (by kernel_rfl) ?_
  refine c_bin .and 0 (by simp) rfl rfl rfl (fun _ => by kernel_rfl) ?_
  refine c_eql true rfl rfl rfl (by kernel_rfl) ?_
  refine s_assign rfl rfl ?_
  refine SXs_nilK (fr' := [(2, _)]) rfl ?_
  refine KSs_wp ?_
  refine WPs_ret ?_
  refine RLs_start ?_
  refine RLs_tmp rfl ?_
  refine RLs_fin1 ?_
  exact fun w hS => ⟨rfl, hS.sl (by (repeat ((exact Sl.refl _))))⟩

/-- math/bits.TrailingZeros64 -/
theorem clF2_178_0 {g : World} {F : List HP} (hG : DeG g) : RCs Tryz.prog 178 [(.int .u64 16)] g F (fun u w => u = (.int .i64 4) ∧ St g w F) := by
  refine RCs_of_WPs Tryz.func178 rfl Tryz.ntmps178 rfl Tryz.results178 ?_
  refine WPs_seq ?_
  refine WPs_regionK [0] ?_
  refine s_assign rfl rfl ?_
  refine SXs_nilK (fr' := [(0, _)]) rfl ?_
  refine KSs_wp ?_
  refine WPs_seq ?_
  refine WPs_seq ?_
  refine WPs_regionK [0, 4] ?_
  refine s_move rfl rfl ?_
  refine c_eql false rfl rfl rfl (by kernel_rfl) ?_
  refine SXs_nilK (fr' := [(0, _), (4, _)]) rfl ?_
  refine KSs_wp ?_
  refine WPs_condF rfl ?_
  refine WPs_skip ?_
  refine KSs_wp ?_
  refine WPs_seq ?_
  refine WPs_regionK [2] ?_
  refine s_move rfl rfl ?_
  refine s_move rfl rfl ?_
  refine s_neg (c := 18446744073709551600) rfl rfl (by kernel_rfl) ?_
  refine c_bin .and 16 (by simp) rfl rfl rfl (fun _ => by kernel_rfl) ?_
  refine s_mul' (c := 4573923408821661840) rfl rfl rfl (by kernel_rfl) ?_
  refine s_shr (c := 15) rfl rfl rfl (by omega) (by kernel_rfl) ?_
  refine c_idxArr 15 Tryz.underlying249 Tryz.sizeOf5 rfl rfl rfl (by omega) (by omega) (by kernel_rfl) ?_
  refine s_load1 (v := .int .u8 4) Tryz.isAgg5 rfl rfl (cin_old (hG 15 _ rfl)) ?_
  refine s_conv (c := 4) Tryz.underlying5 Tryz.underlying3 rfl rfl (by kernel_rfl) ?_
  refine s_assign rfl rfl ?_
  refine SXs_nilK (fr' := [(2, _)]) rfl ?_
  refine KSs_wp ?_
  refine WPs_ret ?_
  refine RLs_start ?_
  refine RLs_tmp rfl ?_
  refine RLs_fin1 ?_
  exact fun w hS => ⟨rfl, hS.sl (by (repeat ((exact Sl.refl _))))⟩

/-- math/bits.TrailingZeros -/
theorem clF2_156_0 {g : World} {F : List HP} (hG : DeG g) : RCs Tryz.prog 156 [(.int .u64 16)] g F (fun u w => u = (.int .i64 4) ∧ St g w F) := by
  refine RCs_of_WPs Tryz.func156 rfl Tryz.ntmps156 rfl Tryz.results156 ?_
  refine WPs_seq ?_
  refine WPs_regionK [0] ?_
  refine s_assign rfl rfl ?_
  refine SXs_nilK (fr' := [(0, _)]) rfl ?_
  refine KSs_wp ?_
  refine WPs_seq ?_
  refine WPs_condF rfl ?_
  refine WPs_skip ?_
  refine KSs_wp ?_
  refine WPs_seq ?_
  refine WPs_regionK [2] ?_
  refine s_move rfl rfl ?_
  refine s_call Tryz.call178 rfl (vs := [_]) rfl (RCs.perm (by (repeat ((exact List.Perm.refl _)))) (clF2_178_0 hG)) ?_
  rintro v w ⟨rfl, hS⟩
  refine SXs_go hS ?_
  clear hS; clear w
  simp only [putF]
  refine s_assign rfl rfl ?_
  refine SXs_nilK (fr' := [(2, _)]) rfl ?_
  refine KSs_wp ?_
  refine WPs_ret ?_
  refine RLs_start ?_
  refine RLs_tmp rfl ?_
  refine RLs_fin1 ?_
  exact fun w hS => ⟨rfl, hS.sl (by (repeat ((exact Sl.refl _))))⟩

/-- internal/strconv.formatBits -/
theorem clF2_123_0 {g : World} {F : List HP} (hG : DeG g) : RCs Tryz.prog 123 [(.slice none 0 0), (.int .u64 255), (.int .i64 16), (.bool false), (.bool false)] g F (fun u w => u = .tuple #[(.slice none 0 0), (.string ⟨#[102, 102]⟩)] ∧ St g w F) := by
  refine RCs_of_WPs Tryz.func123 rfl Tryz.ntmps123 rfl Tryz.results123 ?_
  refine WPs_seq ?_
  refine WPs_regionK [0, 1, 2, 3, 4, 10, 11] ?_
  refine s_assign rfl rfl ?_
  refine s_assign rfl rfl ?_
  refine SXs_nilK (fr' := [(0, _), (1, _), (2, _), (3, _), (4, _), (10, _), (11, _)]) rfl ?_
  refine KSs_wp ?_
  refine WPs_seq ?_
  refine WPs_seq ?_
  refine WPs_regionK [0, 1, 2, 3, 4, 10, 11, 28] ?_
  refine s_move rfl rfl ?_
  refine c_lss false rfl rfl rfl (by kernel_rfl) ?_
  refine s_move rfl rfl ?_
  refine s_guard_t2 rfl rfl (by ((rfl))) rfl ?_
  refine s_move rfl rfl ?_
  refine s_guard_t2 rfl rfl (by ((rfl))) rfl ?_
  refine c_eql false rfl rfl rfl (by kernel_rfl) ?_
  refine s_pick_f rfl rfl rfl ?_
  refine s_move rfl rfl ?_
  refine s_guard_t2 rfl rfl (by ((rfl))) rfl ?_
  refine s_move rfl rfl ?_
  refine s_guard_t2 rfl rfl (by ((rfl))) rfl ?_
  refine c_gtr false rfl rfl rfl (by kernel_rfl) ?_
  refine s_pick_f rfl rfl rfl ?_
  refine SXs_nilK (fr' := [(0, _), (1, _), (2, _), (3, _), (4, _), (10, _), (11, _), (28, _)]) rfl ?_
  refine KSs_wp ?_
  refine WPs_condF rfl ?_
  refine WPs_skip ?_
  refine KSs_wp ?_
  refine WPs_seq ?_
  refine WPs_regionK [0, 1, 2, 3, 4, 10, 11, 12] ?_
  refine s_alloc Tryz.zeroValue212 (cl := [_, _, _, _, _, _, _, _, _, _, _, _, _, _, _, _, _, _, _, _, _, _, _, _, _, _, _, _, _, _, _, _, _, _, _, _, _, _, _, _, _, _, _, _, _, _, _, _, _, _, _, _, _, _, _, _, _, _, _, _, _, _, _, _, _]) rfl rfl (fun b12 => ?_)
  refine SXs_nilK (fr' := [(0, _), (1, _), (2, _), (3, _), (4, _), (10, _), (11, _), (12, _)]) rfl ?_
  refine KSs_wp ?_
  refine WPs_seq ?_
  refine WPs_regionK [0, 1, 2, 3, 4, 10, 11, 12, 13] ?_
  refine s_assign rfl rfl ?_
  refine SXs_nilK (fr' := [(0, _), (1, _), (2, _), (3, _), (4, _), (10, _), (11, _), (12, _), (13, _)]) rfl ?_
  refine KSs_wp ?_
  refine WPs_seq ?_
  refine WPs_seq ?_
  refine WPs_regionK [0, 1, 2, 3, 4, 10, 11, 12, 13, 30] ?_
  refine s_move rfl rfl ?_
  refine SXs_nilK (fr' := [(0, _), (1, _), (2, _), (3, _), (4, _), (10, _), (11, _), (12, _), (13, _), (30, _)]) rfl ?_
  refine KSs_wp ?_
  refine WPs_condF rfl ?_
  refine WPs_skip ?_
  refine KSs_wp ?_
  refine WPs_seq ?_
  refine WPs_seq ?_
  refine WPs_regionK [0, 1, 2, 3, 4, 10, 11, 12, 13, 34] ?_
  refine s_move rfl rfl ?_
  refine s_call Tryz.call155 rfl (vs := [_]) rfl (RCs.perm (by (repeat ((exact List.Perm.refl _)))) (clF2_155_0)) ?_
  rintro v w ⟨rfl, hS⟩
  refine SXs_go hS ?_
  clear hS; clear w
  simp only [putF]
  refine SXs_nilK (fr' := [(0, _), (1, _), (2, _), (3, _), (4, _), (10, _), (11, _), (12, _), (13, _), (34, _)]) rfl ?_
  refine KSs_wp ?_
  refine WPs_condT rfl ?_
  refine WPs_seq ?_
  refine WPs_regionK [0, 1, 2, 3, 4, 10, 11, 12, 13, 14] ?_
  refine s_move rfl rfl ?_
  refine s_conv (c := 16) Tryz.underlying3 Tryz.underlying127 rfl rfl (by kernel_rfl) ?_
  refine s_call Tryz.call156 rfl (vs := [_]) rfl (RCs.perm (by (repeat ((exact List.Perm.refl _)))) (clF2_156_0 hG)) ?_
  rintro v w ⟨rfl, hS⟩
  refine SXs_go hS ?_
  clear hS; clear w
  simp only [putF]
  refine s_conv (c := 4) Tryz.underlying3 Tryz.underlying127 rfl rfl (by kernel_rfl) ?_
  refine s_assign rfl rfl ?_
  refine SXs_nilK (fr' := [(0, _), (1, _), (2, _), (3, _), (4, _), (10, _), (11, _), (12, _), (13, _), (14, _)]) rfl ?_
  refine KSs_wp ?_
  refine WPs_seq ?_
  refine WPs_regionK [0, 1, 2, 3, 4, 10, 11, 12, 13, 14, 15] ?_
  refine s_move rfl rfl ?_
  refine s_conv (c := 16) Tryz.underlying3 Tryz.underlying36 rfl rfl (by kernel_rfl) ?_
  refine s_assign rfl rfl ?_
  refine SXs_nilK (fr' := [(0, _), (1, _), (2, _), (3, _), (4, _), (10, _), (11, _), (12, _), (13, _), (14, _), (15, _)]) rfl ?_
  refine KSs_wp ?_
  refine WPs_seq ?_
  refine WPs_regionK [0, 1, 3, 4, 10, 11, 12, 13, 14, 15, 16] ?_
  refine s_move rfl rfl ?_
  refine s_conv (c := 16) Tryz.underlying3 Tryz.underlying127 rfl rfl (by kernel_rfl) ?_
  refine s_sub' (c := 15) rfl rfl rfl (by kernel_rfl) ?_
  refine s_assign rfl rfl ?_
  refine SXs_nilK (fr' := [(0, _), (1, _), (3, _), (4, _), (10, _), (11, _), (12, _), (13, _), (14, _), (15, _), (16, _)]) rfl ?_
  refine KSs_wp ?_
  refine WPs_seq ?_
  refine WPs_block ?_
  refine WPs_unroll 59 ?_
  refine WPs_seq ?_
  refine WPs_seq ?_
  refine WPs_regionK [0, 1, 3, 4, 10, 11, 12, 13, 14, 15, 16, 46] ?_
  refine s_move rfl rfl ?_
  refine s_move rfl rfl ?_
  refine c_geq true rfl rfl rfl (by kernel_rfl) ?_
  refine SXs_nilK (fr' := [(0, _), (1, _), (3, _), (4, _), (10, _), (11, _), (12, _), (13, _), (14, _), (15, _), (16, _), (46, _)]) rfl ?_
  refine KSs_wp ?_
  refine WPs_condT rfl ?_
  refine WPs_skip ?_
  refine KSs_wp ?_
  refine WPs_block ?_
  refine WPs_seq ?_
  refine WPs_regionK [0, 1, 3, 4, 10, 11, 12, 13, 14, 15, 16] ?_
  refine s_move rfl rfl ?_
  refine s_sub' (c := 64) rfl rfl rfl (by kernel_rfl) ?_
  refine s_assign rfl rfl ?_
  refine SXs_nilK (fr' := [(0, _), (1, _), (3, _), (4, _), (10, _), (11, _), (12, _), (13, _), (14, _), (15, _), (16, _)]) rfl ?_
  refine KSs_wp ?_
  refine WPs_seq ?_
  refine WPs_regionK [0, 1, 3, 4, 10, 11, 12, 13, 14, 15, 16] ?_
  refine s_move rfl rfl ?_
  refine s_move rfl rfl ?_
  refine s_move rfl rfl ?_
  refine c_bin .and 15 (by simp) rfl rfl rfl (fun _ => by kernel_rfl) ?_
  refine c_idxStr (j := 15) 102 Tryz.underlying9 rfl rfl rfl (by kernel_rfl) (by kernel_rfl) ?_
  refine c_idxArr 64 Tryz.underlying212 Tryz.sizeOf5 rfl rfl rfl (by omega) (by omega) (by kernel_rfl) ?_
  refine s_store (i := 0) Tryz.sizeOf5 rfl rfl rfl (vs := [_]) rfl rfl rfl rfl ?_
  simp only [List.set_cons_zero, List.set_cons_succ, spl]
  refine SXs_nilK (fr' := [(0, _), (1, _), (3, _), (4, _), (10, _), (11, _), (12, _), (13, _), (14, _), (15, _), (16, _)]) rfl ?_
  refine KSs_wp ?_
  refine WPs_regionK [0, 1, 3, 4, 10, 11, 12, 13, 14, 15, 16] ?_
  refine s_move rfl rfl ?_
  refine s_move rfl rfl ?_
  refine s_shr (c := 15) rfl rfl rfl (by omega) (by kernel_rfl) ?_
  refine s_assign rfl rfl ?_
  refine SXs_nilK (fr' := [(0, _), (1, _), (3, _), (4, _), (10, _), (11, _), (12, _), (13, _), (14, _), (15, _), (16, _)]) rfl ?_
  refine KSs_unroll (N := 58) ?_
  refine WPs_seq ?_
  refine WPs_seq ?_
  refine WPs_regionK [0, 1, 3, 4, 10, 11, 12, 13, 14, 15, 16, 46] ?_
  refine s_move rfl rfl ?_
  refine s_move rfl rfl ?_
  refine c_geq false rfl rfl rfl (by kernel_rfl) ?_
  refine SXs_nilK (fr' := [(0, _), (1, _), (3, _), (4, _), (10, _), (11, _), (12, _), (13, _), (14, _), (15, _), (16, _), (46, _)]) rfl ?_
  refine KSs_wp ?_
  refine WPs_condF rfl ?_
  refine WPs_exit rfl ?_
  refine KSs_wp ?_
  refine WPs_seq ?_
  refine WPs_regionK [0, 1, 3, 4, 10, 11, 12, 13] ?_
  refine s_move rfl rfl ?_
  refine s_sub' (c := 63) rfl rfl rfl (by kernel_rfl) ?_
  refine s_assign rfl rfl ?_
  refine SXs_nilK (fr' := [(0, _), (1, _), (3, _), (4, _), (10, _), (11, _), (12, _), (13, _)]) rfl ?_
  refine KSs_wp ?_
  refine WPs_regionK [0, 3, 4, 10, 11, 12, 13] ?_
  refine s_move rfl rfl ?_
  refine s_move rfl rfl ?_
  refine c_idxStr (j := 15) 102 Tryz.underlying9 rfl rfl rfl (by kernel_rfl) (by kernel_rfl) ?_
  refine c_idxArr 63 Tryz.underlying212 Tryz.sizeOf5 rfl rfl rfl (by omega) (by omega) (by kernel_rfl) ?_
  refine s_store (i := 0) Tryz.sizeOf5 rfl rfl rfl (vs := [_]) rfl rfl rfl rfl ?_
  simp only [List.set_cons_zero, List.set_cons_succ, spl]
  refine SXs_nilK (fr' := [(0, _), (3, _), (4, _), (10, _), (11, _), (12, _), (13, _)]) rfl ?_
  refine KSs_wp ?_
  refine WPs_seq ?_
  refine WPs_seq ?_
  refine WPs_regionK [0, 4, 10, 11, 12, 13, 89] ?_
  refine s_move rfl rfl ?_
  refine SXs_nilK (fr' := [(0, _), (4, _), (10, _), (11, _), (12, _), (13, _), (89, _)]) rfl ?_
  refine KSs_wp ?_
  refine WPs_condF rfl ?_
  refine WPs_skip ?_
  refine KSs_wp ?_
  refine WPs_seq ?_
  refine WPs_seq ?_
  refine WPs_regionK [0, 10, 11, 12, 13, 94] ?_
  refine s_move rfl rfl ?_
  refine SXs_nilK (fr' := [(0, _), (10, _), (11, _), (12, _), (13, _), (94, _)]) rfl ?_
  refine KSs_wp ?_
  refine WPs_condF rfl ?_
  refine WPs_skip ?_
  refine KSs_wp ?_
  refine WPs_seq ?_
  refine WPs_regionK [10, 11] ?_
  refine s_move rfl rfl ?_
  refine c_sliceArr 63 65 (vlo := some _) (vhi := none) Tryz.underlying212 Tryz.sizeOf5 rfl rfl rfl trivial (.inl rfl) (.inr ⟨rfl, rfl⟩) rfl rfl ?_
  refine c_b2s (bs := [102, 102]) Tryz.underlying42 Tryz.underlying5 Tryz.underlying9 rfl rfl (by (exact pt_RdIn (i := 0) rfl rfl rfl (by omega) (by simp only [maxLen]; omega))) ?_
  refine s_assign rfl rfl ?_
  refine SXs_nilK (fr' := [(10, _), (11, _)]) rfl ?_
  refine KSs_wp ?_
  refine WPs_ret ?_
  refine RLs_start ?_
  refine RLs_tmp rfl ?_
  refine RLs_tmp rfl ?_
  refine RLs_fin2 ?_
  exact fun w hS => ⟨rfl, hS.sl (by (repeat (first | exact Sl.refl _ | refine Sl.skip ?_)))⟩

/-- internal/strconv.FormatUint -/
theorem clF2_75_0 {g : World} {F : List HP} (hG : DeG g) : RCs Tryz.prog 75 [(.int .u64 255), (.int .i64 16)] g F (fun u w => u = (.string ⟨#[102, 102]⟩) ∧ St g w F) := by
  refine RCs_of_WPs Tryz.func75 rfl Tryz.ntmps75 rfl Tryz.results75 ?_
  refine WPs_seq ?_
  refine WPs_regionK [0, 1] ?_
  refine s_assign rfl rfl ?_
  refine SXs_nilK (fr' := [(0, _), (1, _)]) rfl ?_
  refine KSs_wp ?_
  refine WPs_seq ?_
  refine WPs_seq ?_
  refine WPs_regionK [0, 1, 10] ?_
  refine s_move rfl rfl ?_
  refine c_eql false rfl rfl rfl (by kernel_rfl) ?_
  refine SXs_nilK (fr' := [(0, _), (1, _), (10, _)]) rfl ?_
  refine KSs_wp ?_
  refine WPs_condF rfl ?_
  refine WPs_skip ?_
  refine KSs_wp ?_
  refine WPs_seq ?_
  refine WPs_regionK [8] ?_
  refine s_move rfl rfl ?_
  refine s_move rfl rfl ?_
  refine s_call Tryz.call123 rfl (vs := [_, _, _, _, _]) rfl (RCs.perm (by (repeat ((exact List.Perm.refl _)))) (clF2_123_0 hG)) ?_
  rintro v w ⟨rfl, hS⟩
  refine SXs_go hS ?_
  clear hS; clear w
  simp only [putF]
  refine s_move rfl rfl ?_
  refine s_extract rfl rfl rfl ?_
  refine s_extract rfl rfl rfl ?_
  refine s_assign rfl rfl ?_
  refine s_assign rfl rfl ?_
  refine SXs_nilK (fr' := [(8, _)]) rfl ?_
  refine KSs_wp ?_
  refine WPs_seq ?_
  refine WPs_regionK [4] ?_
  refine s_move rfl rfl ?_
  refine s_assign rfl rfl ?_
  refine SXs_nilK (fr' := [(4, _)]) rfl ?_
  refine KSs_wp ?_
  refine WPs_ret ?_
  refine RLs_start ?_
  refine RLs_tmp rfl ?_
  refine RLs_fin1 ?_
  exact fun w hS => ⟨rfl, hS.sl (by (repeat ((exact Sl.refl _))))⟩

/-- strconv.FormatUint -/
theorem clF2_33_0 {g : World} {F : List HP} (hG : DeG g) : RCs Tryz.prog 33 [(.int .u64 255), (.int .i64 16)] g F (fun u w => u = (.string ⟨#[102, 102]⟩) ∧ St g w F) := by
  refine RCs_of_WPs Tryz.func33 rfl Tryz.ntmps33 rfl Tryz.results33 ?_
  refine WPs_seq ?_
  refine WPs_regionK [0, 1] ?_
  refine s_assign rfl rfl ?_
  refine SXs_nilK (fr' := [(0, _), (1, _)]) rfl ?_
  refine KSs_wp ?_
  refine WPs_seq ?_
  refine WPs_regionK [4] ?_
  refine s_move rfl rfl ?_
  refine s_move rfl rfl ?_
  refine s_call Tryz.call75 rfl (vs := [_, _]) rfl (RCs.perm (by (repeat ((exact List.Perm.refl _)))) (clF2_75_0 hG)) ?_
  rintro v w ⟨rfl, hS⟩
  refine SXs_go hS ?_
  clear hS; clear w
  simp only [putF]
  refine s_assign rfl rfl ?_
  refine SXs_nilK (fr' := [(4, _)]) rfl ?_
  refine KSs_wp ?_
  refine WPs_ret ?_
  refine RLs_start ?_
  refine RLs_tmp rfl ?_
  refine RLs_fin1 ?_
  exact fun w hS => ⟨rfl, hS.sl (by (repeat ((exact Sl.refl _))))⟩

/-- math/bits.Mul64 -/
theorem clF2_125_0 {g : World} {F : List HP} : RCs Tryz.prog 125 [(.int .u64 1), (.int .u64 4)] g F (fun u w => u = .tuple #[(.int .u64 0), (.int .u64 4)] ∧ St g w F) := by
  refine RCs_of_WPs Tryz.func125 rfl Tryz.ntmps125 rfl Tryz.results125 ?_
  refine WPs_seq ?_
  refine WPs_regionK [0, 1] ?_
  refine s_assign rfl rfl ?_
  refine s_assign rfl rfl ?_
  refine SXs_nilK (fr' := [(0, _), (1, _)]) rfl ?_
  refine KSs_wp ?_
  refine WPs_seq ?_
  refine WPs_regionK [0, 1, 6] ?_
  refine s_move rfl rfl ?_
  refine c_bin .and 1 (by simp) rfl rfl rfl (fun _ => by kernel_rfl) ?_
  refine s_assign rfl rfl ?_
  refine SXs_nilK (fr' := [(0, _), (1, _), (6, _)]) rfl ?_
  refine KSs_wp ?_
  refine WPs_seq ?_
  refine WPs_regionK [0, 1, 6, 7] ?_
  refine s_move rfl rfl ?_
  refine s_shr (c := 0) rfl rfl rfl (by omega) (by kernel_rfl) ?_
  refine s_assign rfl rfl ?_
  refine SXs_nilK (fr' := [(0, _), (1, _), (6, _), (7, _)]) rfl ?_
  refine KSs_wp ?_
  refine WPs_seq ?_
  refine WPs_regionK [0, 1, 6, 7, 8] ?_
  refine s_move rfl rfl ?_
  refine c_bin .and 4 (by simp) rfl rfl rfl (fun _ => by kernel_rfl) ?_
  refine s_assign rfl rfl ?_
  refine SXs_nilK (fr' := [(0, _), (1, _), (6, _), (7, _), (8, _)]) rfl ?_
  refine KSs_wp ?_
  refine WPs_seq ?_
  refine WPs_regionK [0, 1, 6, 7, 8, 9] ?_
  refine s_move rfl rfl ?_
  refine s_shr (c := 0) rfl rfl rfl (by omega) (by kernel_rfl) ?_
  refine s_assign rfl rfl ?_
  refine SXs_nilK (fr' := [(0, _), (1, _), (6, _), (7, _), (8, _), (9, _)]) rfl ?_
  refine KSs_wp ?_
  refine WPs_seq ?_
  refine WPs_regionK [0, 1, 6, 7, 8, 9, 10] ?_
  refine s_move rfl rfl ?_
  refine s_move rfl rfl ?_
  refine s_mul' (c := 4) rfl rfl rfl (by kernel_rfl) ?_
  refine s_assign rfl rfl ?_
  refine SXs_nilK (fr' := [(0, _), (1, _), (6, _), (7, _), (8, _), (9, _), (10, _)]) rfl ?_
  refine KSs_wp ?_
  refine WPs_seq ?_
  refine WPs_regionK [0, 1, 6, 7, 9, 11] ?_
  refine s_move rfl rfl ?_
  refine s_move rfl rfl ?_
  refine s_mul' (c := 0) rfl rfl rfl (by kernel_rfl) ?_
  refine s_move rfl rfl ?_
  refine s_shr (c := 0) rfl rfl rfl (by omega) (by kernel_rfl) ?_
  refine s_add' (c := 0) rfl rfl rfl (by kernel_rfl) ?_
  refine s_assign rfl rfl ?_
  refine SXs_nilK (fr' := [(0, _), (1, _), (6, _), (7, _), (9, _), (11, _)]) rfl ?_
  refine KSs_wp ?_
  refine WPs_seq ?_
  refine WPs_regionK [0, 1, 6, 7, 9, 11, 12] ?_
  refine s_move rfl rfl ?_
  refine c_bin .and 0 (by simp) rfl rfl rfl (fun _ => by kernel_rfl) ?_
  refine s_assign rfl rfl ?_
  refine SXs_nilK (fr' := [(0, _), (1, _), (6, _), (7, _), (9, _), (11, _), (12, _)]) rfl ?_
  refine KSs_wp ?_
  refine WPs_seq ?_
  refine WPs_regionK [0, 1, 6, 7, 9, 12, 13] ?_
  refine s_move rfl rfl ?_
  refine s_shr (c := 0) rfl rfl rfl (by omega) (by kernel_rfl) ?_
  refine s_assign rfl rfl ?_
  refine SXs_nilK (fr' := [(0, _), (1, _), (6, _), (7, _), (9, _), (12, _), (13, _)]) rfl ?_
  refine KSs_wp ?_
  refine WPs_seq ?_
  refine WPs_regionK [0, 1, 7, 9, 12, 13] ?_
  refine s_move rfl rfl ?_
  refine s_move rfl rfl ?_
  refine s_move rfl rfl ?_
  refine s_mul' (c := 0) rfl rfl rfl (by kernel_rfl) ?_
  refine s_add' (c := 0) rfl rfl rfl (by kernel_rfl) ?_
  refine s_assign rfl rfl ?_
  refine SXs_nilK (fr' := [(0, _), (1, _), (7, _), (9, _), (12, _), (13, _)]) rfl ?_
  refine KSs_wp ?_
  refine WPs_seq ?_
  refine WPs_regionK [0, 1, 4] ?_
  refine s_move rfl rfl ?_
  refine s_move rfl rfl ?_
  refine s_mul' (c := 0) rfl rfl rfl (by kernel_rfl) ?_
  refine s_move rfl rfl ?_
  refine s_add' (c := 0) rfl rfl rfl (by kernel_rfl) ?_
  refine s_move rfl rfl ?_
  refine s_shr (c := 0) rfl rfl rfl (by omega) (by kernel_rfl) ?_
  refine s_add' (c := 0) rfl rfl rfl (by kernel_rfl) ?_
  refine s_assign rfl rfl ?_
  refine SXs_nilK (fr' := [(0, _), (1, _), (4, _)]) rfl ?_
  refine KSs_wp ?_
  refine WPs_seq ?_
  refine WPs_regionK [4, 5] ?_
  refine s_move rfl rfl ?_
  refine s_move rfl rfl ?_
  refine s_mul' (c := 4) rfl rfl rfl (by kernel_rfl) ?_
  refine s_assign rfl rfl ?_
  refine SXs_nilK (fr' := [(4, _), (5, _)]) rfl ?_
  refine KSs_wp ?_
  refine WPs_ret ?_
  refine RLs_start ?_
  refine RLs_tmp rfl ?_
  refine RLs_tmp rfl ?_
  refine RLs_fin2 ?_
  exact fun w hS => ⟨rfl, hS.sl (by (repeat ((exact Sl.refl _))))⟩

/-- math/bits.Mul -/
theorem clF2_76_0 {g : World} {F : List HP} : RCs Tryz.prog 76 [(.int .u64 1), (.int .u64 4)] g F (fun u w => u = .tuple #[(.int .u64 0), (.int .u64 4)] ∧ St g w F) := by
  refine RCs_of_WPs Tryz.func76 rfl Tryz.ntmps76 rfl Tryz.results76 ?_
  refine WPs_seq ?_
  refine WPs_regionK [0, 1] ?_
  refine s_assign rfl rfl ?_
  refine s_assign rfl rfl ?_
  refine SXs_nilK (fr' := [(0, _), (1, _)]) rfl ?_
  refine KSs_wp ?_
  refine WPs_seq ?_
  refine WPs_condF rfl ?_
  refine WPs_skip ?_
  refine KSs_wp ?_
  refine WPs_seq ?_
  refine WPs_regionK [8, 9] ?_
  refine s_move rfl rfl ?_
  refine s_move rfl rfl ?_
  refine s_call Tryz.call125 rfl (vs := [_, _]) rfl (RCs.perm (by (repeat ((exact List.Perm.refl _)))) (clF2_125_0)) ?_
  rintro v w ⟨rfl, hS⟩
  refine SXs_go hS ?_
  clear hS; clear w
  simp only [putF]
  refine s_move rfl rfl ?_
  refine s_extract rfl rfl rfl ?_
  refine s_extract rfl rfl rfl ?_
  refine s_assign rfl rfl ?_
  refine s_assign rfl rfl ?_
  refine SXs_nilK (fr' := [(8, _), (9, _)]) rfl ?_
  refine KSs_wp ?_
  refine WPs_seq ?_
  refine WPs_regionK [4, 5] ?_
  refine s_move rfl rfl ?_
  refine s_move rfl rfl ?_
  refine s_assign rfl rfl ?_
  refine s_assign rfl rfl ?_
  refine SXs_nilK (fr' := [(4, _), (5, _)]) rfl ?_
  refine KSs_wp ?_
  refine WPs_ret ?_
  refine RLs_start ?_
  refine RLs_tmp rfl ?_
  refine RLs_tmp rfl ?_
  refine RLs_fin2 ?_
  exact fun w hS => ⟨rfl, hS.sl (by (repeat ((exact Sl.refl _))))⟩

/-- internal/stringslite.HasPrefix -/
theorem clF2_126_0 {g : World} {F : List HP} : RCs Tryz.prog 126 [(.string ⟨#[32, 32, 32, 32, 32, 32, 32, 32, 32, 32, 32, 32, 32, 32, 32, 32, 32, 32, 32, 32, 32, 32, 32, 32, 32, 32, 32, 32, 32, 32, 32, 32, 32, 32, 32, 32, 32, 32, 32, 32, 32, 32, 32, 32, 32, 32, 32, 32, 32, 32, 32, 32, 32, 32, 32, 32, 32, 32, 32, 32, 32, 32, 32, 32, 32, 32, 32, 32, 32, 32, 32, 32, 32, 32, 32, 32, 32, 32, 32, 32, 32, 32, 32, 32, 32, 32, 32, 32, 32, 32, 32, 32, 32, 32, 32, 32, 32, 32, 32, 32, 32, 32, 32, 32, 32, 32, 32, 32, 32, 32, 32, 32, 32, 32, 32, 32, 32, 32, 32, 32, 32, 32, 32, 32, 32, 32, 32, 32]⟩), (.string ⟨#[48]⟩)] g F (fun u w => u = (.bool false) ∧ St g w F) := by
  refine RCs_of_WPs Tryz.func126 rfl Tryz.ntmps126 rfl Tryz.results126 ?_
  refine WPs_seq ?_
  refine WPs_regionK [0, 1] ?_
  refine s_assign rfl rfl ?_
  refine SXs_nilK (fr' := [(0, _), (1, _)]) rfl ?_
  refine KSs_wp ?_
  refine WPs_seq ?_
  refine WPs_regionK [4] ?_
  refine s_move rfl rfl ?_
  refine c_lenStr 128 rfl Tryz.underlying9 rfl rfl (by kernel_rfl) ?_
  refine s_move rfl rfl ?_
  refine c_lenStr 1 rfl Tryz.underlying9 rfl rfl (by kernel_rfl) ?_
  refine c_geq true rfl rfl rfl (by kernel_rfl) ?_
  refine s_move rfl rfl ?_
  refine s_guard_t2 rfl rfl (by ((rfl))) rfl ?_
  refine s_move rfl rfl ?_
  refine s_guard_t2 rfl rfl (by ((rfl))) rfl ?_
  refine s_move rfl rfl ?_
  refine s_guard_t2 rfl rfl (by ((rfl))) rfl ?_
  refine c_lenStr 1 rfl Tryz.underlying9 rfl rfl (by kernel_rfl) ?_
  refine s_guard_t2 rfl rfl (by ((rfl))) rfl ?_
  refine c_sliceStr (l := 0) (m := 1) (vlo := none) (vhi := some _) ⟨#[32]⟩ Tryz.underlying9 rfl rfl trivial rfl (.inr ⟨rfl, rfl⟩) (.inl rfl) (by kernel_rfl) (by kernel_rfl) (by kernel_rfl) ?_
  refine s_guard_t2 rfl rfl (by ((rfl))) rfl ?_
  refine s_move rfl rfl ?_
  refine s_guard_t2 rfl rfl (by ((rfl))) rfl ?_
  refine c_strEq false rfl rfl rfl (by kernel_rfl) ?_
  refine s_pick_t rfl rfl rfl ?_
  refine s_assign rfl rfl ?_
  refine SXs_nilK (fr' := [(4, _)]) rfl ?_
  refine KSs_wp ?_
  refine WPs_ret ?_
  refine RLs_start ?_
  refine RLs_tmp rfl ?_
  refine RLs_fin1 ?_
  exact fun w hS => ⟨rfl, hS.sl (by (repeat ((exact Sl.refl _))))⟩

/-- strings.HasPrefix -/
theorem clF2_77_0 {g : World} {F : List HP} : RCs Tryz.prog 77 [(.string ⟨#[32, 32, 32, 32, 32, 32, 32, 32, 32, 32, 32, 32, 32, 32, 32, 32, 32, 32, 32, 32, 32, 32, 32, 32, 32, 32, 32, 32, 32, 32, 32, 32, 32, 32, 32, 32, 32, 32, 32, 32, 32, 32, 32, 32, 32, 32, 32, 32, 32, 32, 32, 32, 32, 32, 32, 32, 32, 32, 32, 32, 32, 32, 32, 32, 32, 32, 32, 32, 32, 32, 32, 32, 32, 32, 32, 32, 32, 32, 32, 32, 32, 32, 32, 32, 32, 32, 32, 32, 32, 32, 32, 32, 32, 32, 32, 32, 32, 32, 32, 32, 32, 32, 32, 32, 32, 32, 32, 32, 32, 32, 32, 32, 32, 32, 32, 32, 32, 32, 32, 32, 32, 32, 32, 32, 32, 32, 32, 32]⟩), (.string ⟨#[48]⟩)] g F (fun u w => u = (.bool false) ∧ St g w F) := by
  refine RCs_of_WPs Tryz.func77 rfl Tryz.ntmps77 rfl Tryz.results77 ?_
  refine WPs_seq ?_
  refine WPs_regionK [0, 1] ?_
  refine s_assign rfl rfl ?_
  refine SXs_nilK (fr' := [(0, _), (1, _)]) rfl ?_
  refine KSs_wp ?_
  refine WPs_seq ?_
  refine WPs_regionK [4] ?_
  refine s_move rfl rfl ?_
  refine s_move rfl rfl ?_
  refine s_call Tryz.call126 rfl (vs := [_, _]) rfl (RCs.perm (by (repeat ((exact List.Perm.refl _)))) (clF2_126_0)) ?_
  rintro v w ⟨rfl, hS⟩
  refine SXs_go hS ?_
  clear hS; clear w
  simp only [putF]
  refine s_assign rfl rfl ?_
  refine SXs_nilK (fr' := [(4, _)]) rfl ?_
  refine KSs_wp ?_
  refine WPs_ret ?_
  refine RLs_start ?_
  refine RLs_tmp rfl ?_
  refine RLs_fin1 ?_
  exact fun w hS => ⟨rfl, hS.sl (by (repeat ((exact Sl.refl _))))⟩

/-- internal/stringslite.HasPrefix -/
theorem clF2_126_1 {g : World} {F : List HP} : RCs Tryz.prog 126 [(.string ⟨#[45, 45, 45, 45, 45, 45, 45, 45, 45, 45, 45, 45, 45, 45, 45, 45, 45, 45, 45, 45, 45, 45, 45, 45, 45, 45, 45, 45, 45, 45, 45, 45, 45, 45, 45, 45, 45, 45, 45, 45, 45, 45, 45, 45, 45, 45, 45, 45, 45, 45, 45, 45, 45, 45, 45, 45, 45, 45, 45, 45, 45, 45, 45, 45, 45, 45, 45, 45, 45, 45, 45, 45, 45, 45, 45, 45, 45, 45, 45, 45, 45, 45, 45, 45, 45, 45, 45, 45, 45, 45, 45, 45, 45, 45, 45, 45, 45, 45, 45, 45, 45, 45, 45, 45, 45, 45, 45, 45, 45, 45, 45, 45, 45, 45, 45, 45, 45, 45, 45, 45, 45, 45, 45, 45, 45, 45, 45, 45]⟩), (.string ⟨#[48]⟩)] g F (fun u w => u = (.bool false) ∧ St g w F) := by
  refine RCs_of_WPs Tryz.func126 rfl Tryz.ntmps126 rfl Tryz.results126 ?_
  refine WPs_seq ?_
  refine WPs_regionK [0, 1] ?_
  refine s_assign rfl rfl ?_
  refine SXs_nilK (fr' := [(0, _), (1, _)]) rfl ?_
  refine KSs_wp ?_
  refine WPs_seq ?_
  refine WPs_regionK [4] ?_
  refine s_move rfl rfl ?_
  refine c_lenStr 128 rfl Tryz.underlying9 rfl rfl (by kernel_rfl) ?_
  refine s_move rfl rfl ?_
  refine c_lenStr 1 rfl Tryz.underlying9 rfl rfl (by kernel_rfl) ?_
  refine c_geq true rfl rfl rfl (by kernel_rfl) ?_
  refine s_move rfl rfl ?_
  refine s_guard_t2 rfl rfl (by ((rfl))) rfl ?_
  refine s_move rfl rfl ?_
  refine s_guard_t2 rfl rfl (by ((rfl))) rfl ?_
  refine s_move rfl rfl ?_
  refine s_guard_t2 rfl rfl (by ((rfl))) rfl ?_
  refine c_lenStr 1 rfl Tryz.underlying9 rfl rfl (by kernel_rfl) ?_
  refine s_guard_t2 rfl rfl (by ((rfl))) rfl ?_
  refine c_sliceStr (l := 0) (m := 1) (vlo := none) (vhi := some _) ⟨#[45]⟩ Tryz.underlying9 rfl rfl trivial rfl (.inr ⟨rfl, rfl⟩) (.inl rfl) (by kernel_rfl) (by kernel_rfl) (by kernel_rfl) ?_
  refine s_guard_t2 rfl rfl (by ((rfl))) rfl ?_
  refine s_move rfl rfl ?_
  refine s_guard_t2 rfl rfl (by ((rfl))) rfl ?_
  refine c_strEq false rfl rfl rfl (by kernel_rfl) ?_
  refine s_pick_t rfl rfl rfl ?_
  refine s_assign rfl rfl ?_
  refine SXs_nilK (fr' := [(4, _)]) rfl ?_
  refine KSs_wp ?_
  refine WPs_ret ?_
  refine RLs_start ?_
  refine RLs_tmp rfl ?_
  refine RLs_fin1 ?_
  exact fun w hS => ⟨rfl, hS.sl (by (repeat ((exact Sl.refl _))))⟩

/-- strings.HasPrefix -/
theorem clF2_77_1 {g : World} {F : List HP} : RCs Tryz.prog 77 [(.string ⟨#[45, 45, 45, 45, 45, 45, 45, 45, 45, 45, 45, 45, 45, 45, 45, 45, 45, 45, 45, 45, 45, 45, 45, 45, 45, 45, 45, 45, 45, 45, 45, 45, 45, 45, 45, 45, 45, 45, 45, 45, 45, 45, 45, 45, 45, 45, 45, 45, 45, 45, 45, 45, 45, 45, 45, 45, 45, 45, 45, 45, 45, 45, 45, 45, 45, 45, 45, 45, 45, 45, 45, 45, 45, 45, 45, 45, 45, 45, 45, 45, 45, 45, 45, 45, 45, 45, 45, 45, 45, 45, 45, 45, 45, 45, 45, 45, 45, 45, 45, 45, 45, 45, 45, 45, 45, 45, 45, 45, 45, 45, 45, 45, 45, 45, 45, 45, 45, 45, 45, 45, 45, 45, 45, 45, 45, 45, 45, 45]⟩), (.string ⟨#[48]⟩)] g F (fun u w => u = (.bool false) ∧ St g w F) := by
  refine RCs_of_WPs Tryz.func77 rfl Tryz.ntmps77 rfl Tryz.results77 ?_
  refine WPs_seq ?_
  refine WPs_regionK [0, 1] ?_
  refine s_assign rfl rfl ?_
  refine SXs_nilK (fr' := [(0, _), (1, _)]) rfl ?_
  refine KSs_wp ?_
  refine WPs_seq ?_
  refine WPs_regionK [4] ?_
  refine s_move rfl rfl ?_
  refine s_move rfl rfl ?_
  refine s_call Tryz.call126 rfl (vs := [_, _]) rfl (RCs.perm (by (repeat ((exact List.Perm.refl _)))) (clF2_126_1)) ?_
  rintro v w ⟨rfl, hS⟩
  refine SXs_go hS ?_
  clear hS; clear w
  simp only [putF]
  refine s_assign rfl rfl ?_
  refine SXs_nilK (fr' := [(4, _)]) rfl ?_
  refine KSs_wp ?_
  refine WPs_ret ?_
  refine RLs_start ?_
  refine RLs_tmp rfl ?_
  refine RLs_fin1 ?_
  exact fun w hS => ⟨rfl, hS.sl (by (repeat ((exact Sl.refl _))))⟩

/-- internal/stringslite.HasPrefix -/
theorem clF2_126_2 {g : World} {F : List HP} : RCs Tryz.prog 126 [(.string ⟨#[48, 48, 48, 48, 48, 48, 48, 48, 48, 48, 48, 48, 48, 48, 48, 48, 48, 48, 48, 48, 48, 48, 48, 48, 48, 48, 48, 48, 48, 48, 48, 48, 48, 48, 48, 48, 48, 48, 48, 48, 48, 48, 48, 48, 48, 48, 48, 48, 48, 48, 48, 48, 48, 48, 48, 48, 48, 48, 48, 48, 48, 48, 48, 48]⟩), (.string ⟨#[48]⟩)] g F (fun u w => u = (.bool true) ∧ St g w F) := by
  refine RCs_of_WPs Tryz.func126 rfl Tryz.ntmps126 rfl Tryz.results126 ?_
  refine WPs_seq ?_
  refine WPs_regionK [0, 1] ?_
  refine s_assign rfl rfl ?_
  refine SXs_nilK (fr' := [(0, _), (1, _)]) rfl ?_
  refine KSs_wp ?_
  refine WPs_seq ?_
  refine WPs_regionK [4] ?_
  refine s_move rfl rfl ?_
  refine c_lenStr 64 rfl Tryz.underlying9 rfl rfl (by kernel_rfl) ?_
  refine s_move rfl rfl ?_
  refine c_lenStr 1 rfl Tryz.underlying9 rfl rfl (by kernel_rfl) ?_
  refine c_geq true rfl rfl rfl (by kernel_rfl) ?_
  refine s_move rfl rfl ?_
  refine s_guard_t2 rfl rfl (by ((rfl))) rfl ?_
  refine s_move rfl rfl ?_
  refine s_guard_t2 rfl rfl (by ((rfl))) rfl ?_
  refine s_move rfl rfl ?_
  refine s_guard_t2 rfl rfl (by ((rfl))) rfl ?_
  refine c_lenStr 1 rfl Tryz.underlying9 rfl rfl (by kernel_rfl) ?_
  refine s_guard_t2 rfl rfl (by ((rfl))) rfl ?_
  refine c_sliceStr (l := 0) (m := 1) (vlo := none) (vhi := some _) ⟨#[48]⟩ Tryz.underlying9 rfl rfl trivial rfl (.inr ⟨rfl, rfl⟩) (.inl rfl) (by kernel_rfl) (by kernel_rfl) (by kernel_rfl) ?_
  refine s_guard_t2 rfl rfl (by ((rfl))) rfl ?_
  refine s_move rfl rfl ?_
  refine s_guard_t2 rfl rfl (by ((rfl))) rfl ?_
  refine c_strEq true rfl rfl rfl (by kernel_rfl) ?_
  refine s_pick_t rfl rfl rfl ?_
  refine s_assign rfl rfl ?_
  refine SXs_nilK (fr' := [(4, _)]) rfl ?_
  refine KSs_wp ?_
  refine WPs_ret ?_
  refine RLs_start ?_
  refine RLs_tmp rfl ?_
  refine RLs_fin1 ?_
  exact fun w hS => ⟨rfl, hS.sl (by (repeat ((exact Sl.refl _))))⟩

/-- strings.HasPrefix -/
theorem clF2_77_2 {g : World} {F : List HP} : RCs Tryz.prog 77 [(.string ⟨#[48, 48, 48, 48, 48, 48, 48, 48, 48, 48, 48, 48, 48, 48, 48, 48, 48, 48, 48, 48, 48, 48, 48, 48, 48, 48, 48, 48, 48, 48, 48, 48, 48, 48, 48, 48, 48, 48, 48, 48, 48, 48, 48, 48, 48, 48, 48, 48, 48, 48, 48, 48, 48, 48, 48, 48, 48, 48, 48, 48, 48, 48, 48, 48]⟩), (.string ⟨#[48]⟩)] g F (fun u w => u = (.bool true) ∧ St g w F) := by
  refine RCs_of_WPs Tryz.func77 rfl Tryz.ntmps77 rfl Tryz.results77 ?_
  refine WPs_seq ?_
  refine WPs_regionK [0, 1] ?_
  refine s_assign rfl rfl ?_
  refine SXs_nilK (fr' := [(0, _), (1, _)]) rfl ?_
  refine KSs_wp ?_
  refine WPs_seq ?_
  refine WPs_regionK [4] ?_
  refine s_move rfl rfl ?_
  refine s_move rfl rfl ?_
  refine s_call Tryz.call126 rfl (vs := [_, _]) rfl (RCs.perm (by (repeat ((exact List.Perm.refl _)))) (clF2_126_2)) ?_
  rintro v w ⟨rfl, hS⟩
  refine SXs_go hS ?_
  clear hS; clear w
  simp only [putF]
  refine s_assign rfl rfl ?_
  refine SXs_nilK (fr' := [(4, _)]) rfl ?_
  refine KSs_wp ?_
  refine WPs_ret ?_
  refine RLs_start ?_
  refine RLs_tmp rfl ?_
  refine RLs_fin1 ?_
  exact fun w hS => ⟨rfl, hS.sl (by (repeat ((exact Sl.refl _))))⟩

/-- strings.Repeat -/
theorem clF2_34_0 {g : World} {F : List HP} : RCs Tryz.prog 34 [(.string ⟨#[48]⟩), (.int .i64 4)] g F (fun u w => u = (.string ⟨#[48, 48, 48, 48]⟩) ∧ St g w F) := by
  refine RCs_of_WPs Tryz.func34 rfl Tryz.ntmps34 rfl Tryz.results34 ?_
  refine WPs_seq ?_
  refine WPs_regionK [0, 1] ?_
  refine s_assign rfl rfl ?_
  refine SXs_nilK (fr' := [(0, _), (1, _)]) rfl ?_
  refine KSs_wp ?_
  refine WPs_seq ?_
  refine WPs_seq ?_
  refine WPs_regionK [0, 1, 11] ?_
  refine s_move rfl rfl ?_
  refine SXs_nilK (fr' := [(0, _), (1, _), (11, _)]) rfl ?_
  refine KSs_wp ?_
  refine WPs_block ?_
  refine WPs_seq ?_
  refine WPs_regionK [0, 1, 11, 12] ?_
  refine c_eql false rfl rfl rfl (by kernel_rfl) ?_
  refine s_assign rfl rfl ?_
  refine SXs_nilK (fr' := [(0, _), (1, _), (11, _), (12, _)]) rfl ?_
  refine KSs_wp ?_
  refine WPs_condF rfl ?_
  refine WPs_seq ?_
  refine WPs_regionK [0, 1, 14] ?_
  refine c_eql false rfl rfl rfl (by kernel_rfl) ?_
  refine s_assign rfl rfl ?_
  refine SXs_nilK (fr' := [(0, _), (1, _), (14, _)]) rfl ?_
  refine KSs_wp ?_
  refine WPs_condF rfl ?_
  refine WPs_skip ?_
  refine KSs_wp ?_
  refine WPs_seq ?_
  refine WPs_seq ?_
  refine WPs_regionK [0, 1, 18] ?_
  refine s_move rfl rfl ?_
  refine c_lss false rfl rfl rfl (by kernel_rfl) ?_
  refine SXs_nilK (fr' := [(0, _), (1, _), (18, _)]) rfl ?_
  refine KSs_wp ?_
  refine WPs_condF rfl ?_
  refine WPs_skip ?_
  refine KSs_wp ?_
  refine WPs_seq ?_
  refine WPs_regionK [0, 5, 6] ?_
  refine s_move rfl rfl ?_
  refine c_lenStr 1 rfl Tryz.underlying9 rfl rfl (by kernel_rfl) ?_
  refine s_conv (c := 1) Tryz.underlying3 Tryz.underlying127 rfl rfl (by kernel_rfl) ?_
  refine s_move rfl rfl ?_
  refine s_conv (c := 4) Tryz.underlying3 Tryz.underlying127 rfl rfl (by kernel_rfl) ?_
  refine s_call Tryz.call76 rfl (vs := [_, _]) rfl (RCs.perm (by (repeat ((exact List.Perm.refl _)))) (clF2_76_0)) ?_
  rintro v w ⟨rfl, hS⟩
  refine SXs_go hS ?_
  clear hS; clear w
  simp only [putF]
  refine s_move rfl rfl ?_
  refine s_extract rfl rfl rfl ?_
  refine s_extract rfl rfl rfl ?_
  refine s_assign rfl rfl ?_
  refine s_assign rfl rfl ?_
  refine SXs_nilK (fr' := [(0, _), (5, _), (6, _)]) rfl ?_
  refine KSs_wp ?_
  refine WPs_seq ?_
  refine WPs_seq ?_
  refine WPs_regionK [0, 6, 34] ?_
  refine s_move rfl rfl ?_
  refine c_gtr false rfl rfl rfl (by kernel_rfl) ?_
  refine s_move rfl rfl ?_
  refine s_guard_t2 rfl rfl (by ((rfl))) rfl ?_
  refine s_move rfl rfl ?_
  refine s_guard_t2 rfl rfl (by ((rfl))) rfl ?_
  refine c_gtr false rfl rfl rfl (by kernel_rfl) ?_
  refine s_pick_f rfl rfl rfl ?_
  refine SXs_nilK (fr' := [(0, _), (6, _), (34, _)]) rfl ?_
  refine KSs_wp ?_
  refine WPs_condF rfl ?_
  refine WPs_skip ?_
  refine KSs_wp ?_
  refine WPs_seq ?_
  refine WPs_regionK [0, 7] ?_
  refine s_move rfl rfl ?_
  refine s_conv (c := 4) Tryz.underlying127 Tryz.underlying3 rfl rfl (by kernel_rfl) ?_
  refine s_assign rfl rfl ?_
  refine SXs_nilK (fr' := [(0, _), (7, _)]) rfl ?_
  refine KSs_wp ?_
  refine WPs_seq ?_
  refine WPs_seq ?_
  refine WPs_regionK [0, 7, 40] ?_
  refine s_move rfl rfl ?_
  refine c_lenStr 1 rfl Tryz.underlying9 rfl rfl (by kernel_rfl) ?_
  refine c_eql false rfl rfl rfl (by kernel_rfl) ?_
  refine SXs_nilK (fr' := [(0, _), (7, _), (40, _)]) rfl ?_
  refine KSs_wp ?_
  refine WPs_condF rfl ?_
  refine WPs_skip ?_
  refine KSs_wp ?_
  refine WPs_seq ?_
  refine WPs_seq ?_
  refine WPs_regionK [0, 7, 42] ?_
  refine s_move rfl rfl ?_
  refine c_idxStr (j := 0) 48 Tryz.underlying9 rfl rfl rfl (by kernel_rfl) (by kernel_rfl) ?_
  refine SXs_nilK (fr' := [(0, _), (7, _), (42, _)]) rfl ?_
  refine KSs_wp ?_
  refine WPs_block ?_
  refine WPs_seq ?_
  refine WPs_seq ?_
  refine WPs_regionK [0, 7, 42, 43] ?_
  refine c_eql false rfl rfl rfl (by kernel_rfl) ?_
  refine s_assign rfl rfl ?_
  refine SXs_nilK (fr' := [(0, _), (7, _), (42, _), (43, _)]) rfl ?_
  refine KSs_wp ?_
  refine WPs_condF rfl ?_
  refine WPs_seq ?_
  refine WPs_regionK [0, 7, 42, 43] ?_
  refine c_eql false rfl rfl rfl (by kernel_rfl) ?_
  refine s_assign rfl rfl ?_
  refine SXs_nilK (fr' := [(0, _), (7, _), (42, _), (43, _)]) rfl ?_
  refine KSs_wp ?_
  refine WPs_condF rfl ?_
  refine WPs_seq ?_
  refine WPs_regionK [0, 7, 42, 43] ?_
  refine c_eql true rfl rfl rfl (by kernel_rfl) ?_
  refine s_assign rfl rfl ?_
  refine SXs_nilK (fr' := [(0, _), (7, _), (42, _), (43, _)]) rfl ?_
  refine KSs_wp ?_
  refine WPs_condT rfl ?_
  refine WPs_skip ?_
  refine KSs_wp ?_
  refine WPs_condT rfl ?_
  refine WPs_block ?_
  refine WPs_seq ?_
  refine WPs_regionK [0, 7, 49] ?_
  refine s_move rfl rfl ?_
  refine c_leq true rfl rfl rfl (by kernel_rfl) ?_
  refine s_move rfl rfl ?_
  refine s_guard_t2 rfl rfl (by ((rfl))) rfl ?_
  refine s_move rfl rfl ?_
  refine s_guard_t2 rfl rfl (by ((rfl))) rfl ?_
  refine s_call Tryz.call77 rfl (vs := [_, _]) rfl (RCs.perm (by (repeat ((exact List.Perm.refl _)))) (clF2_77_0)) ?_
  rintro v w ⟨rfl, hS⟩
  refine SXs_go hS ?_
  clear hS; clear w
  simp only [putF]
  refine s_pick_t rfl rfl rfl ?_
  refine s_assign rfl rfl ?_
  refine SXs_nilK (fr' := [(0, _), (7, _), (49, _)]) rfl ?_
  refine KSs_wp ?_
  refine WPs_condF rfl ?_
  refine WPs_seq ?_
  refine WPs_regionK [0, 7, 58] ?_
  refine s_move rfl rfl ?_
  refine c_leq true rfl rfl rfl (by kernel_rfl) ?_
  refine s_move rfl rfl ?_
  refine s_guard_t2 rfl rfl (by ((rfl))) rfl ?_
  refine s_move rfl rfl ?_
  refine s_guard_t2 rfl rfl (by ((rfl))) rfl ?_
  refine s_call Tryz.call77 rfl (vs := [_, _]) rfl (RCs.perm (by (repeat ((exact List.Perm.refl _)))) (clF2_77_1)) ?_
  rintro v w ⟨rfl, hS⟩
  refine SXs_go hS ?_
  clear hS; clear w
  simp only [putF]
  refine s_pick_t rfl rfl rfl ?_
  refine s_assign rfl rfl ?_
  refine SXs_nilK (fr' := [(0, _), (7, _), (58, _)]) rfl ?_
  refine KSs_wp ?_
  refine WPs_condF rfl ?_
  refine WPs_seq ?_
  refine WPs_regionK [0, 7, 67] ?_
  refine s_move rfl rfl ?_
  refine c_leq true rfl rfl rfl (by kernel_rfl) ?_
  refine s_move rfl rfl ?_
  refine s_guard_t2 rfl rfl (by ((rfl))) rfl ?_
  refine s_move rfl rfl ?_
  refine s_guard_t2 rfl rfl (by ((rfl))) rfl ?_
  refine s_call Tryz.call77 rfl (vs := [_, _]) rfl (RCs.perm (by (repeat ((exact List.Perm.refl _)))) (clF2_77_2)) ?_
  rintro v w ⟨rfl, hS⟩
  refine SXs_go hS ?_
  clear hS; clear w
  simp only [putF]
  refine s_pick_t rfl rfl rfl ?_
  refine s_assign rfl rfl ?_
  refine SXs_nilK (fr' := [(0, _), (7, _), (67, _)]) rfl ?_
  refine KSs_wp ?_
  refine WPs_condT rfl ?_
  refine WPs_seq ?_
  refine WPs_regionK [4] ?_
  refine s_move rfl rfl ?_
  refine c_sliceStr (l := 0) (m := 4) (vlo := none) (vhi := some _) ⟨#[48, 48, 48, 48]⟩ Tryz.underlying9 rfl rfl trivial rfl (.inr ⟨rfl, rfl⟩) (.inl rfl) (by kernel_rfl) (by kernel_rfl) (by kernel_rfl) ?_
  refine s_assign rfl rfl ?_
  refine SXs_nilK (fr' := [(4, _)]) rfl ?_
  refine KSs_wp ?_
  refine WPs_ret ?_
  refine RLs_start ?_
  refine RLs_tmp rfl ?_
  refine RLs_fin1 ?_
  exact fun w hS => ⟨rfl, hS.sl (by (repeat ((exact Sl.refl _))))⟩

/-- hourbook/seg.Name -/
theorem clF2_12_0 {g : World} {F : List HP} (hG : DeG g) : RCs Tryz.prog 12 [(.int .u32 255)] g F (fun u w => u = (.string ⟨#[115, 101, 103, 45, 48, 48, 48, 48, 102, 102]⟩) ∧ St g w F) := by
  refine RCs_of_WPs Tryz.func12 rfl Tryz.ntmps12 rfl Tryz.results12 ?_
  refine WPs_seq ?_
  refine WPs_regionK [0] ?_
  refine s_assign rfl rfl ?_
  refine SXs_nilK (fr' := [(0, _)]) rfl ?_
  refine KSs_wp ?_
  refine WPs_seq ?_
  refine WPs_seq ?_
  refine WPs_regionK [0, 6] ?_
  refine s_move rfl rfl ?_
  refine s_call Tryz.call32 rfl (vs := [_]) rfl (RCs.perm (by (repeat ((exact List.Perm.refl _)))) (clF2_32_0)) ?_
  rintro v w ⟨rfl, hS⟩
  refine SXs_go hS ?_
  clear hS; clear w
  simp only [putF]
  refine c_not false rfl rfl (by kernel_rfl) ?_
  refine SXs_nilK (fr' := [(0, _), (6, _)]) rfl ?_
  refine KSs_wp ?_
  refine WPs_condF rfl ?_
  refine WPs_skip ?_
  refine KSs_wp ?_
  refine WPs_seq ?_
  refine WPs_regionK [3] ?_
  refine s_move rfl rfl ?_
  refine s_conv (c := 255) Tryz.underlying34 Tryz.underlying36 rfl rfl (by kernel_rfl) ?_
  refine s_call Tryz.call33 rfl (vs := [_, _]) rfl (RCs.perm (by (repeat ((exact List.Perm.refl _)))) (clF2_33_0 hG)) ?_
  rintro v w ⟨rfl, hS⟩
  refine SXs_go hS ?_
  clear hS; clear w
  simp only [putF]
  refine s_assign rfl rfl ?_
  refine SXs_nilK (fr' := [(3, _)]) rfl ?_
  refine KSs_wp ?_
  refine WPs_seq ?_
  refine WPs_regionK [2] ?_
  refine s_move rfl rfl ?_
  refine c_lenStr 2 rfl Tryz.underlying9 rfl rfl (by kernel_rfl) ?_
  refine s_sub' (c := 4) rfl rfl rfl (by kernel_rfl) ?_
  refine s_call Tryz.call34 rfl (vs := [_, _]) rfl (RCs.perm (by (repeat ((exact List.Perm.refl _)))) (clF2_34_0)) ?_
  rintro v w ⟨rfl, hS⟩
  refine SXs_go hS ?_
  clear hS; clear w
  simp only [putF]
  refine c_strAdd ⟨#[115, 101, 103, 45, 48, 48, 48, 48]⟩ rfl rfl rfl (by kernel_rfl) (by kernel_rfl) ?_
  refine s_move rfl rfl ?_
  refine c_strAdd ⟨#[115, 101, 103, 45, 48, 48, 48, 48, 102, 102]⟩ rfl rfl rfl (by kernel_rfl) (by kernel_rfl) ?_
  refine s_assign rfl rfl ?_
  refine SXs_nilK (fr' := [(2, _)]) rfl ?_
  refine KSs_wp ?_
  refine WPs_ret ?_
  refine RLs_start ?_
  refine RLs_tmp rfl ?_
  refine RLs_fin1 ?_
  exact fun w hS => ⟨rfl, hS.sl (by (repeat ((exact Sl.refl _))))⟩

/-- hourbook/seg.Id -/
theorem clF2_26_0 {g : World} {F : List HP} (hG : DeG g) : RCs Tryz.prog 26 [(.string ⟨#[115, 101, 103, 45, 48, 48, 48, 48, 102, 102]⟩)] g F (fun u w => u = .tuple #[(.int .u32 255), (.bool true)] ∧ St g w F) := by
  refine RCs_of_WPs Tryz.func26 rfl Tryz.ntmps26 rfl Tryz.results26 ?_
  refine WPs_seq ?_
  refine WPs_regionK [0] ?_
  refine s_assign rfl rfl ?_
  refine s_assign rfl rfl ?_
  refine SXs_nilK (fr' := [(0, _)]) rfl ?_
  refine KSs_wp ?_
  refine WPs_seq ?_
  refine WPs_seq ?_
  refine WPs_regionK [0, 8] ?_
  refine s_move rfl rfl ?_
  refine c_lenStr 10 rfl Tryz.underlying9 rfl rfl (by kernel_rfl) ?_
  refine c_neq false rfl rfl rfl (by kernel_rfl) ?_
  refine SXs_nilK (fr' := [(0, _), (8, _)]) rfl ?_
  refine KSs_wp ?_
  refine WPs_condF rfl ?_
  refine WPs_skip ?_
  refine KSs_wp ?_
  refine WPs_seq ?_
  refine WPs_regionK [0, 4, 5] ?_
  refine s_move rfl rfl ?_
  refine c_sliceStr (l := 4) (m := 10) (vlo := some _) (vhi := none) ⟨#[48, 48, 48, 48, 102, 102]⟩ Tryz.underlying9 rfl rfl rfl trivial (.inl rfl) (.inr ⟨rfl, rfl⟩) (by kernel_rfl) (by kernel_rfl) (by kernel_rfl) ?_
  refine s_call Tryz.call61 rfl (vs := [_, _, _]) rfl (RCs.perm (by (repeat ((exact List.Perm.refl _)))) (clF2_61_0)) ?_
  rintro v w ⟨rfl, hS⟩
  refine SXs_go hS ?_
  clear hS; clear w
  simp only [putF]
  refine s_move rfl rfl ?_
  refine s_extract rfl rfl rfl ?_
  refine s_extract rfl rfl rfl ?_
  refine s_assign rfl rfl ?_
  refine s_assign rfl rfl ?_
  refine SXs_nilK (fr' := [(0, _), (4, _), (5, _)]) rfl ?_
  refine KSs_wp ?_
  refine WPs_seq ?_
  refine WPs_seq ?_
  refine WPs_regionK [4, 23] ?_
  refine s_move rfl rfl ?_
  refine c_ifcNeq Tryz.underlying117 rfl rfl ?_
  refine s_move rfl rfl ?_
  refine s_guard_t2 rfl rfl (by ((rfl))) rfl ?_
  refine s_move rfl rfl ?_
  refine s_guard_t2 rfl rfl (by ((rfl))) rfl ?_
  refine s_conv (c := 255) Tryz.underlying36 Tryz.underlying34 rfl rfl (by kernel_rfl) ?_
  refine s_guard_t2 rfl rfl (by ((rfl))) rfl ?_
  refine s_call Tryz.call12 rfl (vs := [_]) rfl (RCs.perm (by (repeat ((exact List.Perm.refl _)))) (clF2_12_0 hG)) ?_
  rintro v w ⟨rfl, hS⟩
  refine SXs_go hS ?_
  clear hS; clear w
  simp only [putF]
  refine s_guard_t2 rfl rfl (by ((rfl))) rfl ?_
  refine s_move rfl rfl ?_
  refine s_guard_t2 rfl rfl (by ((rfl))) rfl ?_
  refine c_strNeq false rfl rfl rfl (by kernel_rfl) ?_
  refine s_pick_f rfl rfl rfl ?_
  refine SXs_nilK (fr' := [(4, _), (23, _)]) rfl ?_
  refine KSs_wp ?_
  refine WPs_condF rfl ?_
  refine WPs_skip ?_
  refine KSs_wp ?_
  refine WPs_seq ?_
  refine WPs_regionK [2, 3] ?_
  refine s_move rfl rfl ?_
  refine s_conv (c := 255) Tryz.underlying36 Tryz.underlying34 rfl rfl (by kernel_rfl) ?_
  refine s_assign rfl rfl ?_
  refine s_assign rfl rfl ?_
  refine SXs_nilK (fr' := [(2, _), (3, _)]) rfl ?_
  refine KSs_wp ?_
  refine WPs_ret ?_
  refine RLs_start ?_
  refine RLs_tmp rfl ?_
  refine RLs_tmp rfl ?_
  refine RLs_fin2 ?_
  exact fun w hS => ⟨rfl, hS.sl (by (repeat ((exact Sl.refl _))))⟩

theorem id255 {g : World} {F : List HP} (hG : DeG g) : RCs Tryz.prog 26 [(.string ⟨#[115, 101, 103, 45, 48, 48, 48, 48, 102, 102]⟩)] g F (fun u w => u = .tuple #[(.int .u32 255), (.bool true)] ∧ St g w F) := clF2_26_0 hG

/-- internal/strconv.lower -/
theorem clF2_141_1 {g : World} {F : List HP} : RCs Tryz.prog 141 [(.int .u8 70)] g F (fun u w => u = (.int .u8 102) ∧ St g w F) := by
  refine RCs_of_WPs Tryz.func141 rfl Tryz.ntmps141 rfl Tryz.results141 ?_
  refine WPs_seq ?_
  refine WPs_regionK [0] ?_
  refine s_assign rfl rfl ?_
  refine SXs_nilK (fr' := [(0, _)]) rfl ?_
  refine KSs_wp ?_
  refine WPs_seq ?_
  refine WPs_regionK [2] ?_
  refine s_move rfl rfl ?_
  refine c_bin .or 102 (by simp) rfl rfl rfl (fun _ => by kernel_rfl) ?_
  refine s_assign rfl rfl ?_
  refine SXs_nilK (fr' := [(2, _)]) rfl ?_
  refine KSs_wp ?_
  refine WPs_ret ?_
  refine RLs_start ?_
  refine RLs_tmp rfl ?_
  refine RLs_fin1 ?_
  exact fun w hS => ⟨rfl, hS.sl (by (repeat ((exact Sl.refl _))))⟩

/-- internal/strconv.ParseUint -/
theorem clF2_109_1 {g : World} {F : List HP} : RCs Tryz.prog 109 [(.string ⟨#[48, 48, 48, 48, 70, 70]⟩), (.int .i64 16), (.int .i64 32)] g F (fun u w => u = .tuple #[(.int .u64 255), .nilIface] ∧ St g w F) := by
  refine RCs_of_WPs Tryz.func109 rfl Tryz.ntmps109 rfl Tryz.results109 ?_
  refine WPs_seq ?_
  refine WPs_regionK [0, 1, 2] ?_
  refine s_assign rfl rfl ?_
  refine s_assign rfl rfl ?_
  refine SXs_nilK (fr' := [(0, _), (1, _), (2, _)]) rfl ?_
  refine KSs_wp ?_
  refine WPs_seq ?_
  refine WPs_seq ?_
  refine WPs_regionK [0, 1, 2, 19] ?_
  refine s_move rfl rfl ?_
  refine c_strEq false rfl rfl rfl (by kernel_rfl) ?_
  refine SXs_nilK (fr' := [(0, _), (1, _), (2, _), (19, _)]) rfl ?_
  refine KSs_wp ?_
  refine WPs_condF rfl ?_
  refine WPs_skip ?_
  refine KSs_wp ?_
  refine WPs_seq ?_
  refine WPs_regionK [0, 1, 2, 8] ?_
  refine s_move rfl rfl ?_
  refine c_eql false rfl rfl rfl (by kernel_rfl) ?_
  refine s_assign rfl rfl ?_
  refine SXs_nilK (fr' := [(0, _), (1, _), (2, _), (8, _)]) rfl ?_
  refine KSs_wp ?_
  refine WPs_seq ?_
  refine WPs_regionK [0, 1, 2, 8, 9] ?_
  refine s_move rfl rfl ?_
  refine s_assign rfl rfl ?_
  refine SXs_nilK (fr' := [(0, _), (1, _), (2, _), (8, _), (9, _)]) rfl ?_
  refine KSs_wp ?_
  refine WPs_seq ?_
  refine WPs_block ?_
  refine WPs_seq ?_
  refine WPs_regionK [0, 1, 2, 8, 9, 25] ?_
  refine s_move rfl rfl ?_
  refine c_leq true rfl rfl rfl (by kernel_rfl) ?_
  refine s_move rfl rfl ?_
  refine s_guard_t2 rfl rfl (by ((rfl))) rfl ?_
  refine s_move rfl rfl ?_
  refine s_guard_t2 rfl rfl (by ((rfl))) rfl ?_
  refine c_leq true rfl rfl rfl (by kernel_rfl) ?_
  refine s_pick_t rfl rfl rfl ?_
  refine s_assign rfl rfl ?_
  refine SXs_nilK (fr' := [(0, _), (1, _), (2, _), (8, _), (9, _), (25, _)]) rfl ?_
  refine KSs_wp ?_
  refine WPs_condT rfl ?_
  refine WPs_skip ?_
  refine KSs_wp ?_
  refine WPs_seq ?_
  refine WPs_seq ?_
  refine WPs_regionK [0, 1, 2, 8, 9, 77] ?_
  refine s_move rfl rfl ?_
  refine c_eql false rfl rfl rfl (by kernel_rfl) ?_
  refine SXs_nilK (fr' := [(0, _), (1, _), (2, _), (8, _), (9, _), (77, _)]) rfl ?_
  refine KSs_wp ?_
  refine WPs_condF rfl ?_
  refine WPs_seq ?_
  refine WPs_regionK [0, 1, 2, 8, 9, 83] ?_
  refine s_move rfl rfl ?_
  refine c_lss false rfl rfl rfl (by kernel_rfl) ?_
  refine s_move rfl rfl ?_
  refine s_guard_t2 rfl rfl (by ((rfl))) rfl ?_
  refine s_move rfl rfl ?_
  refine s_guard_t2 rfl rfl (by ((rfl))) rfl ?_
  refine c_gtr false rfl rfl rfl (by kernel_rfl) ?_
  refine s_pick_f rfl rfl rfl ?_
  refine SXs_nilK (fr' := [(0, _), (1, _), (2, _), (8, _), (9, _), (83, _)]) rfl ?_
  refine KSs_wp ?_
  refine WPs_condF rfl ?_
  refine WPs_skip ?_
  refine KSs_wp ?_
  refine WPs_seq ?_
  refine WPs_regionK [0, 1, 2, 8, 9] ?_
  refine s_assign rfl rfl ?_
  refine SXs_nilK (fr' := [(0, _), (1, _), (2, _), (8, _), (9, _)]) rfl ?_
  refine KSs_wp ?_
  refine WPs_seq ?_
  refine WPs_seq ?_
  refine WPs_regionK [0, 1, 2, 8, 9, 85] ?_
  refine s_move rfl rfl ?_
  refine SXs_nilK (fr' := [(0, _), (1, _), (2, _), (8, _), (9, _), (85, _)]) rfl ?_
  refine KSs_wp ?_
  refine WPs_block ?_
  refine WPs_seq ?_
  refine WPs_regionK [0, 1, 2, 8, 9, 85, 90] ?_
  refine c_eql false rfl rfl rfl (by kernel_rfl) ?_
  refine s_assign rfl rfl ?_
  refine SXs_nilK (fr' := [(0, _), (1, _), (2, _), (8, _), (9, _), (85, _), (90, _)]) rfl ?_
  refine KSs_wp ?_
  refine WPs_condF rfl ?_
  refine WPs_seq ?_
  refine WPs_regionK [0, 1, 2, 8, 9, 92] ?_
  refine c_eql true rfl rfl rfl (by kernel_rfl) ?_
  refine s_assign rfl rfl ?_
  refine SXs_nilK (fr' := [(0, _), (1, _), (2, _), (8, _), (9, _), (92, _)]) rfl ?_
  refine KSs_wp ?_
  refine WPs_condT rfl ?_
  refine WPs_regionK [0, 1, 2, 8, 9, 10] ?_
  refine s_assign rfl rfl ?_
  refine SXs_nilK (fr' := [(0, _), (1, _), (2, _), (8, _), (9, _), (10, _)]) rfl ?_
  refine KSs_wp ?_
  refine WPs_seq ?_
  refine WPs_regionK [0, 1, 8, 9, 10, 11] ?_
  refine s_move rfl rfl ?_
  refine s_conv (c := 32) Tryz.underlying3 Tryz.underlying127 rfl rfl (by kernel_rfl) ?_
  refine s_shl (c := 4294967296) rfl rfl rfl (by omega) (by kernel_rfl) ?_
  refine s_sub' (c := 4294967295) rfl rfl rfl (by kernel_rfl) ?_
  refine s_assign rfl rfl ?_
  refine SXs_nilK (fr' := [(0, _), (1, _), (8, _), (9, _), (10, _), (11, _)]) rfl ?_
  refine KSs_wp ?_
  refine WPs_seq ?_
  refine WPs_regionK [0, 1, 8, 9, 10, 11, 12] ?_
  refine s_assign rfl rfl ?_
  refine SXs_nilK (fr' := [(0, _), (1, _), (8, _), (9, _), (10, _), (11, _), (12, _)]) rfl ?_
  refine KSs_wp ?_
  refine WPs_seq ?_
  refine WPs_regionK [0, 1, 8, 9, 10, 11, 12, 13] ?_
  refine s_assign rfl rfl ?_
  refine SXs_nilK (fr' := [(0, _), (1, _), (8, _), (9, _), (10, _), (11, _), (12, _), (13, _)]) rfl ?_
  refine KSs_wp ?_
  refine WPs_seq ?_
  refine WPs_seq ?_
  refine WPs_regionK [1, 8, 9, 10, 11, 12, 13, 99, 100, 101] ?_
  refine s_move rfl rfl ?_
  refine c_s2b (bs := [48, 48, 48, 48, 70, 70]) Tryz.underlying9 Tryz.underlying42 Tryz.underlying5 rfl rfl (by decide) (fun va99 vc99 Q99 hR99 => ?_)
  refine s_lenRd rfl Tryz.underlying42 rfl rfl hR99 ?_
  have hl100 : ((6 : Nat) : Int) = 6 := rfl
  refine s_move rfl rfl ?_
  refine SXs_nilK (fr' := [(1, _), (8, _), (9, _), (10, _), (11, _), (12, _), (13, _), (99, _), (100, _), (101, _)]) rfl ?_
  refine KSs_wp ?_
  refine WPs_block ?_
  refine WPs_unroll 59 ?_
  refine WPs_seq ?_
  refine WPs_regionK [1, 8, 9, 10, 11, 12, 13, 99, 100, 101, 102] ?_
  refine c_lss true rfl rfl rfl (by kernel_rfl) ?_
  refine SXs_nilK (fr' := [(1, _), (8, _), (9, _), (10, _), (11, _), (12, _), (13, _), (99, _), (100, _), (101, _), (102, _)]) rfl ?_
  refine KSs_wp ?_
  refine WPs_seq ?_
  refine WPs_condT rfl ?_
  refine WPs_skip ?_
  refine KSs_wp ?_
  refine WPs_seq ?_
  refine WPs_block ?_
  refine WPs_seq ?_
  refine WPs_regionK [1, 8, 9, 10, 11, 12, 13, 15, 99, 100, 101] ?_
  refine s_idxRd slt_42 rfl rfl hR99 rfl (by decide) (by decide) (fun b103 o103 hc103 => ?_)
  refine s_load1 (v := .int .u8 48) Tryz.isAgg5 rfl rfl (hc103.at0 rfl) ?_
  refine s_assign rfl rfl ?_
  refine SXs_nilK (fr' := [(1, _), (8, _), (9, _), (10, _), (11, _), (12, _), (13, _), (15, _), (99, _), (100, _), (101, _)]) rfl ?_
  refine KSs_wp ?_
  refine WPs_seq ?_
  refine WPs_regionK [1, 8, 9, 10, 11, 12, 13, 15, 99, 100, 101] ?_
  refine s_assign rfl rfl ?_
  refine SXs_nilK (fr' := [(1, _), (8, _), (9, _), (10, _), (11, _), (12, _), (13, _), (15, _), (99, _), (100, _), (101, _)]) rfl ?_
  refine KSs_wp ?_
  refine WPs_seq ?_
  refine WPs_block ?_
  refine WPs_seq ?_
  refine WPs_regionK [1, 8, 9, 10, 11, 12, 13, 15, 99, 100, 101, 106] ?_
  refine s_move rfl rfl ?_
  refine c_eql false rfl rfl rfl (by kernel_rfl) ?_
  refine s_move rfl rfl ?_
  refine s_guard_f rfl rfl (by ((rfl))) rfl ?_
  refine s_pick_f rfl rfl rfl ?_
  refine s_assign rfl rfl ?_
  refine SXs_nilK (fr' := [(1, _), (8, _), (9, _), (10, _), (11, _), (12, _), (13, _), (15, _), (99, _), (100, _), (101, _), (106, _)]) rfl ?_
  refine KSs_wp ?_
  refine WPs_condF rfl ?_
  refine WPs_seq ?_
  refine WPs_regionK [1, 8, 9, 10, 11, 12, 13, 15, 99, 100, 101, 112] ?_
  refine s_move rfl rfl ?_
  refine c_leq true rfl rfl rfl (by kernel_rfl) ?_
  refine s_move rfl rfl ?_
  refine s_guard_t2 rfl rfl (by ((rfl))) rfl ?_
  refine s_move rfl rfl ?_
  refine s_guard_t2 rfl rfl (by ((rfl))) rfl ?_
  refine c_leq true rfl rfl rfl (by kernel_rfl) ?_
  refine s_pick_t rfl rfl rfl ?_
  refine s_assign rfl rfl ?_
  refine SXs_nilK (fr' := [(1, _), (8, _), (9, _), (10, _), (11, _), (12, _), (13, _), (15, _), (99, _), (100, _), (101, _), (112, _)]) rfl ?_
  refine KSs_wp ?_
  refine WPs_condT rfl ?_
  refine WPs_regionK [1, 8, 9, 10, 11, 12, 13, 16, 99, 100, 101] ?_
  refine s_move rfl rfl ?_
  refine s_sub' (c := 0) rfl rfl rfl (by kernel_rfl) ?_
  refine s_assign rfl rfl ?_
  refine SXs_nilK (fr' := [(1, _), (8, _), (9, _), (10, _), (11, _), (12, _), (13, _), (16, _), (99, _), (100, _), (101, _)]) rfl ?_
  refine KSs_wp ?_
  refine WPs_seq ?_
  refine WPs_seq ?_
  refine WPs_regionK [1, 8, 9, 10, 11, 12, 13, 16, 99, 100, 101, 137] ?_
  refine s_move rfl rfl ?_
  refine s_move rfl rfl ?_
  refine s_conv (c := 16) Tryz.underlying3 Tryz.underlying5 rfl rfl (by kernel_rfl) ?_
  refine c_geq false rfl rfl rfl (by kernel_rfl) ?_
  refine SXs_nilK (fr' := [(1, _), (8, _), (9, _), (10, _), (11, _), (12, _), (13, _), (16, _), (99, _), (100, _), (101, _), (137, _)]) rfl ?_
  refine KSs_wp ?_
  refine WPs_condF rfl ?_
  refine WPs_skip ?_
  refine KSs_wp ?_
  refine WPs_seq ?_
  refine WPs_seq ?_
  refine WPs_regionK [1, 8, 9, 10, 11, 12, 13, 16, 99, 100, 101, 141] ?_
  refine s_move rfl rfl ?_
  refine s_move rfl rfl ?_
  refine c_geq false rfl rfl rfl (by kernel_rfl) ?_
  refine SXs_nilK (fr' := [(1, _), (8, _), (9, _), (10, _), (11, _), (12, _), (13, _), (16, _), (99, _), (100, _), (101, _), (141, _)]) rfl ?_
  refine KSs_wp ?_
  refine WPs_condF rfl ?_
  refine WPs_skip ?_
  refine KSs_wp ?_
  refine WPs_seq ?_
  refine WPs_regionK [1, 8, 9, 10, 11, 12, 13, 16, 99, 100, 101] ?_
  refine s_move rfl rfl ?_
  refine s_move rfl rfl ?_
  refine s_conv (c := 16) Tryz.underlying3 Tryz.underlying36 rfl rfl (by kernel_rfl) ?_
  refine s_mul' (c := 0) rfl rfl rfl (by kernel_rfl) ?_
  refine s_assign rfl rfl ?_
  refine SXs_nilK (fr' := [(1, _), (8, _), (9, _), (10, _), (11, _), (12, _), (13, _), (16, _), (99, _), (100, _), (101, _)]) rfl ?_
  refine KSs_wp ?_
  refine WPs_seq ?_
  refine WPs_regionK [1, 8, 9, 10, 11, 12, 13, 17, 99, 100, 101] ?_
  refine s_move rfl rfl ?_
  refine s_move rfl rfl ?_
  refine s_conv (c := 0) Tryz.underlying5 Tryz.underlying36 rfl rfl (by kernel_rfl) ?_
  refine s_add' (c := 0) rfl rfl rfl (by kernel_rfl) ?_
  refine s_assign rfl rfl ?_
  refine SXs_nilK (fr' := [(1, _), (8, _), (9, _), (10, _), (11, _), (12, _), (13, _), (17, _), (99, _), (100, _), (101, _)]) rfl ?_
  refine KSs_wp ?_
  refine WPs_seq ?_
  refine WPs_seq ?_
  refine WPs_regionK [1, 8, 9, 10, 11, 12, 17, 99, 100, 101, 159] ?_
  refine s_move rfl rfl ?_
  refine s_move rfl rfl ?_
  refine c_lss false rfl rfl rfl (by kernel_rfl) ?_
  refine s_move rfl rfl ?_
  refine s_guard_t2 rfl rfl (by ((rfl))) rfl ?_
  refine s_move rfl rfl ?_
  refine s_guard_t2 rfl rfl (by ((rfl))) rfl ?_
  refine s_move rfl rfl ?_
  refine s_guard_t2 rfl rfl (by ((rfl))) rfl ?_
  refine c_gtr false rfl rfl rfl (by kernel_rfl) ?_
  refine s_pick_f rfl rfl rfl ?_
  refine SXs_nilK (fr' := [(1, _), (8, _), (9, _), (10, _), (11, _), (12, _), (17, _), (99, _), (100, _), (101, _), (159, _)]) rfl ?_
  refine KSs_wp ?_
  refine WPs_condF rfl ?_
  refine WPs_skip ?_
  refine KSs_wp ?_
  refine WPs_regionK [1, 8, 9, 10, 11, 12, 13, 99, 100, 101] ?_
  refine s_move rfl rfl ?_
  refine s_assign rfl rfl ?_
  refine SXs_nilK (fr' := [(1, _), (8, _), (9, _), (10, _), (11, _), (12, _), (13, _), (99, _), (100, _), (101, _)]) rfl ?_
  refine KSs_wp ?_
  refine WPs_regionK [1, 8, 9, 10, 11, 12, 13, 99, 100, 101] ?_
  refine s_add' (c := 1) rfl rfl rfl (by kernel_rfl) ?_
  refine s_move rfl rfl ?_
  refine SXs_nilK (fr' := [(1, _), (8, _), (9, _), (10, _), (11, _), (12, _), (13, _), (99, _), (100, _), (101, _)]) rfl ?_
  refine KSs_unroll (N := 58) ?_
  refine WPs_seq ?_
  refine WPs_regionK [1, 8, 9, 10, 11, 12, 13, 99, 100, 101, 102] ?_
  refine c_lss true rfl rfl rfl (by kernel_rfl) ?_
  refine SXs_nilK (fr' := [(1, _), (8, _), (9, _), (10, _), (11, _), (12, _), (13, _), (99, _), (100, _), (101, _), (102, _)]) rfl ?_
  refine KSs_wp ?_
  refine WPs_seq ?_
  refine WPs_condT rfl ?_
  refine WPs_skip ?_
  refine KSs_wp ?_
  refine WPs_seq ?_
  refine WPs_block ?_
  refine WPs_seq ?_
  refine WPs_regionK [1, 8, 9, 10, 11, 12, 13, 15, 99, 100, 101] ?_
  refine s_idxRd slt_42 rfl rfl hR99 rfl (by decide) (by decide) (fun b103 o103 hc103 => ?_)
  refine s_load1 (v := .int .u8 48) Tryz.isAgg5 rfl rfl (hc103.at0 rfl) ?_
  refine s_assign rfl rfl ?_
  refine SXs_nilK (fr' := [(1, _), (8, _), (9, _), (10, _), (11, _), (12, _), (13, _), (15, _), (99, _), (100, _), (101, _)]) rfl ?_
  refine KSs_wp ?_
  refine WPs_seq ?_
  refine WPs_regionK [1, 8, 9, 10, 11, 12, 13, 15, 99, 100, 101] ?_
  refine s_assign rfl rfl ?_
  refine SXs_nilK (fr' := [(1, _), (8, _), (9, _), (10, _), (11, _), (12, _), (13, _), (15, _), (99, _), (100, _), (101, _)]) rfl ?_
  refine KSs_wp ?_
  refine WPs_seq ?_
  refine WPs_block ?_
  refine WPs_seq ?_
  refine WPs_regionK [1, 8, 9, 10, 11, 12, 13, 15, 99, 100, 101, 106] ?_
  refine s_move rfl rfl ?_
  refine c_eql false rfl rfl rfl (by kernel_rfl) ?_
  refine s_move rfl rfl ?_
  refine s_guard_f rfl rfl (by ((rfl))) rfl ?_
  refine s_pick_f rfl rfl rfl ?_
  refine s_assign rfl rfl ?_
  refine SXs_nilK (fr' := [(1, _), (8, _), (9, _), (10, _), (11, _), (12, _), (13, _), (15, _), (99, _), (100, _), (101, _), (106, _)]) rfl ?_
  refine KSs_wp ?_
  refine WPs_condF rfl ?_
  refine WPs_seq ?_
  refine WPs_regionK [1, 8, 9, 10, 11, 12, 13, 15, 99, 100, 101, 112] ?_
  refine s_move rfl rfl ?_
  refine c_leq true rfl rfl rfl (by kernel_rfl) ?_
  refine s_move rfl rfl ?_
  refine s_guard_t2 rfl rfl (by ((rfl))) rfl ?_
  refine s_move rfl rfl ?_
  refine s_guard_t2 rfl rfl (by ((rfl))) rfl ?_
  refine c_leq true rfl rfl rfl (by kernel_rfl) ?_
  refine s_pick_t rfl rfl rfl ?_
  refine s_assign rfl rfl ?_
  refine SXs_nilK (fr' := [(1, _), (8, _), (9, _), (10, _), (11, _), (12, _), (13, _), (15, _), (99, _), (100, _), (101, _), (112, _)]) rfl ?_
  refine KSs_wp ?_
  refine WPs_condT rfl ?_
  refine WPs_regionK [1, 8, 9, 10, 11, 12, 13, 16, 99, 100, 101] ?_
  refine s_move rfl rfl ?_
  refine s_sub' (c := 0) rfl rfl rfl (by kernel_rfl) ?_
  refine s_assign rfl rfl ?_
  refine SXs_nilK (fr' := [(1, _), (8, _), (9, _), (10, _), (11, _), (12, _), (13, _), (16, _), (99, _), (100, _), (101, _)]) rfl ?_
  refine KSs_wp ?_
  refine WPs_seq ?_
  refine WPs_seq ?_
  refine WPs_regionK [1, 8, 9, 10, 11, 12, 13, 16, 99, 100, 101, 137] ?_
  refine s_move rfl rfl ?_
  refine s_move rfl rfl ?_
  refine s_conv (c := 16) Tryz.underlying3 Tryz.underlying5 rfl rfl (by kernel_rfl) ?_
  refine c_geq false rfl rfl rfl (by kernel_rfl) ?_
  refine SXs_nilK (fr' := [(1, _), (8, _), (9, _), (10, _), (11, _), (12, _), (13, _), (16, _), (99, _), (100, _), (101, _), (137, _)]) rfl ?_
  refine KSs_wp ?_
  refine WPs_condF rfl ?_
  refine WPs_skip ?_
  refine KSs_wp ?_
  refine WPs_seq ?_
  refine WPs_seq ?_
  refine WPs_regionK [1, 8, 9, 10, 11, 12, 13, 16, 99, 100, 101, 141] ?_
  refine s_move rfl rfl ?_
  refine s_move rfl rfl ?_
  refine c_geq false rfl rfl rfl (by kernel_rfl) ?_
  refine SXs_nilK (fr' := [(1, _), (8, _), (9, _), (10, _), (11, _), (12, _), (13, _), (16, _), (99, _), (100, _), (101, _), (141, _)]) rfl ?_
  refine KSs_wp ?_
  refine WPs_condF rfl ?_
  refine WPs_skip ?_
  refine KSs_wp ?_
  refine WPs_seq ?_
  refine WPs_regionK [1, 8, 9, 10, 11, 12, 13, 16, 99, 100, 101] ?_
  refine s_move rfl rfl ?_
  refine s_move rfl rfl ?_
  refine s_conv (c := 16) Tryz.underlying3 Tryz.underlying36 rfl rfl (by kernel_rfl) ?_
  refine s_mul' (c := 0) rfl rfl rfl (by kernel_rfl) ?_
  refine s_assign rfl rfl ?_
  refine SXs_nilK (fr' := [(1, _), (8, _), (9, _), (10, _), (11, _), (12, _), (13, _), (16, _), (99, _), (100, _), (101, _)]) rfl ?_
  refine KSs_wp ?_
  refine WPs_seq ?_
  refine WPs_regionK [1, 8, 9, 10, 11, 12, 13, 17, 99, 100, 101] ?_
  refine s_move rfl rfl ?_
  refine s_move rfl rfl ?_
  refine s_conv (c := 0) Tryz.underlying5 Tryz.underlying36 rfl rfl (by kernel_rfl) ?_
  refine s_add' (c := 0) rfl rfl rfl (by kernel_rfl) ?_
  refine s_assign rfl rfl ?_
  refine SXs_nilK (fr' := [(1, _), (8, _), (9, _), (10, _), (11, _), (12, _), (13, _), (17, _), (99, _), (100, _), (101, _)]) rfl ?_
  refine KSs_wp ?_
  refine WPs_seq ?_
  refine WPs_seq ?_
  refine WPs_regionK [1, 8, 9, 10, 11, 12, 17, 99, 100, 101, 159] ?_
  refine s_move rfl rfl ?_
  refine s_move rfl rfl ?_
  refine c_lss false rfl rfl rfl (by kernel_rfl) ?_
  refine s_move rfl rfl ?_
  refine s_guard_t2 rfl rfl (by ((rfl))) rfl ?_
  refine s_move rfl rfl ?_
  refine s_guard_t2 rfl rfl (by ((rfl))) rfl ?_
  refine s_move rfl rfl ?_
  refine s_guard_t2 rfl rfl (by ((rfl))) rfl ?_
  refine c_gtr false rfl rfl rfl (by kernel_rfl) ?_
  refine s_pick_f rfl rfl rfl ?_
  refine SXs_nilK (fr' := [(1, _), (8, _), (9, _), (10, _), (11, _), (12, _), (17, _), (99, _), (100, _), (101, _), (159, _)]) rfl ?_
  refine KSs_wp ?_
  refine WPs_condF rfl ?_
  refine WPs_skip ?_
  refine KSs_wp ?_
  refine WPs_regionK [1, 8, 9, 10, 11, 12, 13, 99, 100, 101] ?_
  refine s_move rfl rfl ?_
  refine s_assign rfl rfl ?_
  refine SXs_nilK (fr' := [(1, _), (8, _), (9, _), (10, _), (11, _), (12, _), (13, _), (99, _), (100, _), (101, _)]) rfl ?_
  refine KSs_wp ?_
  refine WPs_regionK [1, 8, 9, 10, 11, 12, 13, 99, 100, 101] ?_
  refine s_add' (c := 2) rfl rfl rfl (by kernel_rfl) ?_
  refine s_move rfl rfl ?_
  refine SXs_nilK (fr' := [(1, _), (8, _), (9, _), (10, _), (11, _), (12, _), (13, _), (99, _), (100, _), (101, _)]) rfl ?_
  refine KSs_unroll (N := 57) ?_
  refine WPs_seq ?_
  refine WPs_regionK [1, 8, 9, 10, 11, 12, 13, 99, 100, 101, 102] ?_
  refine c_lss true rfl rfl rfl (by kernel_rfl) ?_
  refine SXs_nilK (fr' := [(1, _), (8, _), (9, _), (10, _), (11, _), (12, _), (13, _), (99, _), (100, _), (101, _), (102, _)]) rfl ?_
  refine KSs_wp ?_
  refine WPs_seq ?_
  refine WPs_condT rfl ?_
  refine WPs_skip ?_
  refine KSs_wp ?_
  refine WPs_seq ?_
  refine WPs_block ?_
  refine WPs_seq ?_
  refine WPs_regionK [1, 8, 9, 10, 11, 12, 13, 15, 99, 100, 101] ?_
  refine s_idxRd slt_42 rfl rfl hR99 rfl (by decide) (by decide) (fun b103 o103 hc103 => ?_)
  refine s_load1 (v := .int .u8 48) Tryz.isAgg5 rfl rfl (hc103.at0 rfl) ?_
  refine s_assign rfl rfl ?_
  refine SXs_nilK (fr' := [(1, _), (8, _), (9, _), (10, _), (11, _), (12, _), (13, _), (15, _), (99, _), (100, _), (101, _)]) rfl ?_
  refine KSs_wp ?_
  refine WPs_seq ?_
  refine WPs_regionK [1, 8, 9, 10, 11, 12, 13, 15, 99, 100, 101] ?_
  refine s_assign rfl rfl ?_
  refine SXs_nilK (fr' := [(1, _), (8, _), (9, _), (10, _), (11, _), (12, _), (13, _), (15, _), (99, _), (100, _), (101, _)]) rfl ?_
  refine KSs_wp ?_
  refine WPs_seq ?_
  refine WPs_block ?_
  refine WPs_seq ?_
  refine WPs_regionK [1, 8, 9, 10, 11, 12, 13, 15, 99, 100, 101, 106] ?_
  refine s_move rfl rfl ?_
  refine c_eql false rfl rfl rfl (by kernel_rfl) ?_
  refine s_move rfl rfl ?_
  refine s_guard_f rfl rfl (by ((rfl))) rfl ?_
  refine s_pick_f rfl rfl rfl ?_
  refine s_assign rfl rfl ?_
  refine SXs_nilK (fr' := [(1, _), (8, _), (9, _), (10, _), (11, _), (12, _), (13, _), (15, _), (99, _), (100, _), (101, _), (106, _)]) rfl ?_
  refine KSs_wp ?_
  refine WPs_condF rfl ?_
  refine WPs_seq ?_
  refine WPs_regionK [1, 8, 9, 10, 11, 12, 13, 15, 99, 100, 101, 112] ?_
  refine s_move rfl rfl ?_
  refine c_leq true rfl rfl rfl (by kernel_rfl) ?_
  refine s_move rfl rfl ?_
  refine s_guard_t2 rfl rfl (by ((rfl))) rfl ?_
  refine s_move rfl rfl ?_
  refine s_guard_t2 rfl rfl (by ((rfl))) rfl ?_
  refine c_leq true rfl rfl rfl (by kernel_rfl) ?_
  refine s_pick_t rfl rfl rfl ?_
  refine s_assign rfl rfl ?_
  refine SXs_nilK (fr' := [(1, _), (8, _), (9, _), (10, _), (11, _), (12, _), (13, _), (15, _), (99, _), (100, _), (101, _), (112, _)]) rfl ?_
  refine KSs_wp ?_
  refine WPs_condT rfl ?_
  refine WPs_regionK [1, 8, 9, 10, 11, 12, 13, 16, 99, 100, 101] ?_
  refine s_move rfl rfl ?_
  refine s_sub' (c := 0) rfl rfl rfl (by kernel_rfl) ?_
  refine s_assign rfl rfl ?_
  refine SXs_nilK (fr' := [(1, _), (8, _), (9, _), (10, _), (11, _), (12, _), (13, _), (16, _), (99, _), (100, _), (101, _)]) rfl ?_
  refine KSs_wp ?_
  refine WPs_seq ?_
  refine WPs_seq ?_
  refine WPs_regionK [1, 8, 9, 10, 11, 12, 13, 16, 99, 100, 101, 137] ?_
  refine s_move rfl rfl ?_
  refine s_move rfl rfl ?_
  refine s_conv (c := 16) Tryz.underlying3 Tryz.underlying5 rfl rfl (by kernel_rfl) ?_
  refine c_geq false rfl rfl rfl (by kernel_rfl) ?_
  refine SXs_nilK (fr' := [(1, _), (8, _), (9, _), (10, _), (11, _), (12, _), (13, _), (16, _), (99, _), (100, _), (101, _), (137, _)]) rfl ?_
  refine KSs_wp ?_
  refine WPs_condF rfl ?_
  refine WPs_skip ?_
  refine KSs_wp ?_
  refine WPs_seq ?_
  refine WPs_seq ?_
  refine WPs_regionK [1, 8, 9, 10, 11, 12, 13, 16, 99, 100, 101, 141] ?_
  refine s_move rfl rfl ?_
  refine s_move rfl rfl ?_
  refine c_geq false rfl rfl rfl (by kernel_rfl) ?_
  refine SXs_nilK (fr' := [(1, _), (8, _), (9, _), (10, _), (11, _), (12, _), (13, _), (16, _), (99, _), (100, _), (101, _), (141, _)]) rfl ?_
  refine KSs_wp ?_
  refine WPs_condF rfl ?_
  refine WPs_skip ?_
  refine KSs_wp ?_
  refine WPs_seq ?_
  refine WPs_regionK [1, 8, 9, 10, 11, 12, 13, 16, 99, 100, 101] ?_
  refine s_move rfl rfl ?_
  refine s_move rfl rfl ?_
  refine s_conv (c := 16) Tryz.underlying3 Tryz.underlying36 rfl rfl (by kernel_rfl) ?_
  refine s_mul' (c := 0) rfl rfl rfl (by kernel_rfl) ?_
  refine s_assign rfl rfl ?_
  refine SXs_nilK (fr' := [(1, _), (8, _), (9, _), (10, _), (11, _), (12, _), (13, _), (16, _), (99, _), (100, _), (101, _)]) rfl ?_
  refine KSs_wp ?_
  refine WPs_seq ?_
  refine WPs_regionK [1, 8, 9, 10, 11, 12, 13, 17, 99, 100, 101] ?_
  refine s_move rfl rfl ?_
  refine s_move rfl rfl ?_
  refine s_conv (c := 0) Tryz.underlying5 Tryz.underlying36 rfl rfl (by kernel_rfl) ?_
  refine s_add' (c := 0) rfl rfl rfl (by kernel_rfl) ?_
  refine s_assign rfl rfl ?_
  refine SXs_nilK (fr' := [(1, _), (8, _), (9, _), (10, _), (11, _), (12, _), (13, _), (17, _), (99, _), (100, _), (101, _)]) rfl ?_
  refine KSs_wp ?_
  refine WPs_seq ?_
  refine WPs_seq ?_
  refine WPs_regionK [1, 8, 9, 10, 11, 12, 17, 99, 100, 101, 159] ?_
  refine s_move rfl rfl ?_
  refine s_move rfl rfl ?_
  refine c_lss false rfl rfl rfl (by kernel_rfl) ?_
  refine s_move rfl rfl ?_
  refine s_guard_t2 rfl rfl (by ((rfl))) rfl ?_
  refine s_move rfl rfl ?_
  refine s_guard_t2 rfl rfl (by ((rfl))) rfl ?_
  refine s_move rfl rfl ?_
  refine s_guard_t2 rfl rfl (by ((rfl))) rfl ?_
  refine c_gtr false rfl rfl rfl (by kernel_rfl) ?_
  refine s_pick_f rfl rfl rfl ?_
  refine SXs_nilK (fr' := [(1, _), (8, _), (9, _), (10, _), (11, _), (12, _), (17, _), (99, _), (100, _), (101, _), (159, _)]) rfl ?_
  refine KSs_wp ?_
  refine WPs_condF rfl ?_
  refine WPs_skip ?_
  refine KSs_wp ?_
  refine WPs_regionK [1, 8, 9, 10, 11, 12, 13, 99, 100, 101] ?_
  refine s_move rfl rfl ?_
  refine s_assign rfl rfl ?_
  refine SXs_nilK (fr' := [(1, _), (8, _), (9, _), (10, _), (11, _), (12, _), (13, _), (99, _), (100, _), (101, _)]) rfl ?_
  refine KSs_wp ?_
  refine WPs_regionK [1, 8, 9, 10, 11, 12, 13, 99, 100, 101] ?_
  refine s_add' (c := 3) rfl rfl rfl (by kernel_rfl) ?_
  refine s_move rfl rfl ?_
  refine SXs_nilK (fr' := [(1, _), (8, _), (9, _), (10, _), (11, _), (12, _), (13, _), (99, _), (100, _), (101, _)]) rfl ?_
  refine KSs_unroll (N := 56) ?_
  refine WPs_seq ?_
  refine WPs_regionK [1, 8, 9, 10, 11, 12, 13, 99, 100, 101, 102] ?_
  refine c_lss true rfl rfl rfl (by kernel_rfl) ?_
  refine SXs_nilK (fr' := [(1, _), (8, _), (9, _), (10, _), (11, _), (12, _), (13, _), (99, _), (100, _), (101, _), (102, _)]) rfl ?_
  refine KSs_wp ?_
  refine WPs_seq ?_
  refine WPs_condT rfl ?_
  refine WPs_skip ?_
  refine KSs_wp ?_
  refine WPs_seq ?_
  refine WPs_block ?_
  refine WPs_seq ?_
  refine WPs_regionK [1, 8, 9, 10, 11, 12, 13, 15, 99, 100, 101] ?_
  refine s_idxRd slt_42 rfl rfl hR99 rfl (by decide) (by decide) (fun b103 o103 hc103 => ?_)
  refine s_load1 (v := .int .u8 48) Tryz.isAgg5 rfl rfl (hc103.at0 rfl) ?_
  refine s_assign rfl rfl ?_
  refine SXs_nilK (fr' := [(1, _), (8, _), (9, _), (10, _), (11, _), (12, _), (13, _), (15, _), (99, _), (100, _), (101, _)]) rfl ?_
  refine KSs_wp ?_
  refine WPs_seq ?_
  refine WPs_regionK [1, 8, 9, 10, 11, 12, 13, 15, 99, 100, 101] ?_
  refine s_assign rfl rfl ?_
  refine SXs_nilK (fr' := [(1, _), (8, _), (9, _), (10, _), (11, _), (12, _), (13, _), (15, _), (99, _), (100, _), (101, _)]) rfl ?_
  refine KSs_wp ?_
  refine WPs_seq ?_
  refine WPs_block ?_
  refine WPs_seq ?_
  refine WPs_regionK [1, 8, 9, 10, 11, 12, 13, 15, 99, 100, 101, 106] ?_
  refine s_move rfl rfl ?_
  refine c_eql false rfl rfl rfl (by kernel_rfl) ?_
  refine s_move rfl rfl ?_
  refine s_guard_f rfl rfl (by ((rfl))) rfl ?_
  refine s_pick_f rfl rfl rfl ?_
  refine s_assign rfl rfl ?_
  refine SXs_nilK (fr' := [(1, _), (8, _), (9, _), (10, _), (11, _), (12, _), (13, _), (15, _), (99, _), (100, _), (101, _), (106, _)]) rfl ?_
  refine KSs_wp ?_
  refine WPs_condF rfl ?_
  refine WPs_seq ?_
  refine WPs_regionK [1, 8, 9, 10, 11, 12, 13, 15, 99, 100, 101, 112] ?_
  refine s_move rfl rfl ?_
  refine c_leq true rfl rfl rfl (by kernel_rfl) ?_
  refine s_move rfl rfl ?_
  refine s_guard_t2 rfl rfl (by ((rfl))) rfl ?_
  refine s_move rfl rfl ?_
  refine s_guard_t2 rfl rfl (by ((rfl))) rfl ?_
  refine c_leq true rfl rfl rfl (by kernel_rfl) ?_
  refine s_pick_t rfl rfl rfl ?_
  refine s_assign rfl rfl ?_
  refine SXs_nilK (fr' := [(1, _), (8, _), (9, _), (10, _), (11, _), (12, _), (13, _), (15, _), (99, _), (100, _), (101, _), (112, _)]) rfl ?_
  refine KSs_wp ?_
  refine WPs_condT rfl ?_
  refine WPs_regionK [1, 8, 9, 10, 11, 12, 13, 16, 99, 100, 101] ?_
  refine s_move rfl rfl ?_
  refine s_sub' (c := 0) rfl rfl rfl (by kernel_rfl) ?_
  refine s_assign rfl rfl ?_
  refine SXs_nilK (fr' := [(1, _), (8, _), (9, _), (10, _), (11, _), (12, _), (13, _), (16, _), (99, _), (100, _), (101, _)]) rfl ?_
  refine KSs_wp ?_
  refine WPs_seq ?_
  refine WPs_seq ?_
  refine WPs_regionK [1, 8, 9, 10, 11, 12, 13, 16, 99, 100, 101, 137] ?_
  refine s_move rfl rfl ?_
  refine s_move rfl rfl ?_
  refine s_conv (c := 16) Tryz.underlying3 Tryz.underlying5 rfl rfl (by kernel_rfl) ?_
  refine c_geq false rfl rfl rfl (by kernel_rfl) ?_
  refine SXs_nilK (fr' := [(1, _), (8, _), (9, _), (10, _), (11, _), (12, _), (13, _), (16, _), (99, _), (100, _), (101, _), (137, _)]) rfl ?_
  refine KSs_wp ?_
  refine WPs_condF rfl ?_
  refine WPs_skip ?_
  refine KSs_wp ?_
  refine WPs_seq ?_
  refine WPs_seq ?_
  refine WPs_regionK [1, 8, 9, 10, 11, 12, 13, 16, 99, 100, 101, 141] ?_
  refine s_move rfl rfl ?_
  refine s_move rfl rfl ?_
  refine c_geq false rfl rfl rfl (by kernel_rfl) ?_
  refine SXs_nilK (fr' := [(1, _), (8, _), (9, _), (10, _), (11, _), (12, _), (13, _), (16, _), (99, _), (100, _), (101, _), (141, _)]) rfl ?_
  refine KSs_wp ?_
  refine WPs_condF rfl ?_
  refine WPs_skip ?_
  refine KSs_wp ?_
  refine WPs_seq ?_
  refine WPs_regionK [1, 8, 9, 10, 11, 12, 13, 16, 99, 100, 101] ?_
  refine s_move rfl rfl ?_
  refine s_move rfl rfl ?_
  refine s_conv (c := 16) Tryz.underlying3 Tryz.underlying36 rfl rfl (by kernel_rfl) ?_
  refine s_mul' (c := 0) rfl rfl rfl (by kernel_rfl) ?_
  refine s_assign rfl rfl ?_
  refine SXs_nilK (fr' := [(1, _), (8, _), (9, _), (10, _), (11, _), (12, _), (13, _), (16, _), (99, _), (100, _), (101, _)]) rfl ?_
  refine KSs_wp ?_
  refine WPs_seq ?_
  refine WPs_regionK [1, 8, 9, 10, 11, 12, 13, 17, 99, 100, 101] ?_
  refine s_move rfl rfl ?_
  refine s_move rfl rfl ?_
  refine s_conv (c := 0) Tryz.underlying5 Tryz.underlying36 rfl rfl (by kernel_rfl) ?_
  refine s_add' (c := 0) rfl rfl rfl (by kernel_rfl) ?_
  refine s_assign rfl rfl ?_
  refine SXs_nilK (fr' := [(1, _), (8, _), (9, _), (10, _), (11, _), (12, _), (13, _), (17, _), (99, _), (100, _), (101, _)]) rfl ?_
  refine KSs_wp ?_
  refine WPs_seq ?_
  refine WPs_seq ?_
  refine WPs_regionK [1, 8, 9, 10, 11, 12, 17, 99, 100, 101, 159] ?_
  refine s_move rfl rfl ?_
  refine s_move rfl rfl ?_
  refine c_lss false rfl rfl rfl (by kernel_rfl) ?_
  refine s_move rfl rfl ?_
  refine s_guard_t2 rfl rfl (by ((rfl))) rfl ?_
  refine s_move rfl rfl ?_
  refine s_guard_t2 rfl rfl (by ((rfl))) rfl ?_
  refine s_move rfl rfl ?_
  refine s_guard_t2 rfl rfl (by ((rfl))) rfl ?_
  refine c_gtr false rfl rfl rfl (by kernel_rfl) ?_
  refine s_pick_f rfl rfl rfl ?_
  refine SXs_nilK (fr' := [(1, _), (8, _), (9, _), (10, _), (11, _), (12, _), (17, _), (99, _), (100, _), (101, _), (159, _)]) rfl ?_
  refine KSs_wp ?_
  refine WPs_condF rfl ?_
  refine WPs_skip ?_
  refine KSs_wp ?_
  refine WPs_regionK [1, 8, 9, 10, 11, 12, 13, 99, 100, 101] ?_
  refine s_move rfl rfl ?_
  refine s_assign rfl rfl ?_
  refine SXs_nilK (fr' := [(1, _), (8, _), (9, _), (10, _), (11, _), (12, _), (13, _), (99, _), (100, _), (101, _)]) rfl ?_
  refine KSs_wp ?_
  refine WPs_regionK [1, 8, 9, 10, 11, 12, 13, 99, 100, 101] ?_
  refine s_add' (c := 4) rfl rfl rfl (by kernel_rfl) ?_
  refine s_move rfl rfl ?_
  refine SXs_nilK (fr' := [(1, _), (8, _), (9, _), (10, _), (11, _), (12, _), (13, _), (99, _), (100, _), (101, _)]) rfl ?_
  refine KSs_unroll (N := 55) ?_
  refine WPs_seq ?_
  refine WPs_regionK [1, 8, 9, 10, 11, 12, 13, 99, 100, 101, 102] ?_
  refine c_lss true rfl rfl rfl (by kernel_rfl) ?_
  refine SXs_nilK (fr' := [(1, _), (8, _), (9, _), (10, _), (11, _), (12, _), (13, _), (99, _), (100, _), (101, _), (102, _)]) rfl ?_
  refine KSs_wp ?_
  refine WPs_seq ?_
  refine WPs_condT rfl ?_
  refine WPs_skip ?_
  refine KSs_wp ?_
  refine WPs_seq ?_
  refine WPs_block ?_
  refine WPs_seq ?_
  refine WPs_regionK [1, 8, 9, 10, 11, 12, 13, 15, 99, 100, 101] ?_
  refine s_idxRd slt_42 rfl rfl hR99 rfl (by decide) (by decide) (fun b103 o103 hc103 => ?_)
  refine s_load1 (v := .int .u8 70) Tryz.isAgg5 rfl rfl (hc103.at0 rfl) ?_
  refine s_assign rfl rfl ?_
  refine SXs_nilK (fr' := [(1, _), (8, _), (9, _), (10, _), (11, _), (12, _), (13, _), (15, _), (99, _), (100, _), (101, _)]) rfl ?_
  refine KSs_wp ?_
  refine WPs_seq ?_
  refine WPs_regionK [1, 8, 9, 10, 11, 12, 13, 15, 99, 100, 101] ?_
  refine s_assign rfl rfl ?_
  refine SXs_nilK (fr' := [(1, _), (8, _), (9, _), (10, _), (11, _), (12, _), (13, _), (15, _), (99, _), (100, _), (101, _)]) rfl ?_
  refine KSs_wp ?_
  refine WPs_seq ?_
  refine WPs_block ?_
  refine WPs_seq ?_
  refine WPs_regionK [1, 8, 9, 10, 11, 12, 13, 15, 99, 100, 101, 106] ?_
  refine s_move rfl rfl ?_
  refine c_eql false rfl rfl rfl (by kernel_rfl) ?_
  refine s_move rfl rfl ?_
  refine s_guard_f rfl rfl (by ((rfl))) rfl ?_
  refine s_pick_f rfl rfl rfl ?_
  refine s_assign rfl rfl ?_
  refine SXs_nilK (fr' := [(1, _), (8, _), (9, _), (10, _), (11, _), (12, _), (13, _), (15, _), (99, _), (100, _), (101, _), (106, _)]) rfl ?_
  refine KSs_wp ?_
  refine WPs_condF rfl ?_
  refine WPs_seq ?_
  refine WPs_regionK [1, 8, 9, 10, 11, 12, 13, 15, 99, 100, 101, 112] ?_
  refine s_move rfl rfl ?_
  refine c_leq true rfl rfl rfl (by kernel_rfl) ?_
  refine s_move rfl rfl ?_
  refine s_guard_t2 rfl rfl (by ((rfl))) rfl ?_
  refine s_move rfl rfl ?_
  refine s_guard_t2 rfl rfl (by ((rfl))) rfl ?_
  refine c_leq false rfl rfl rfl (by kernel_rfl) ?_
  refine s_pick_t rfl rfl rfl ?_
  refine s_assign rfl rfl ?_
  refine SXs_nilK (fr' := [(1, _), (8, _), (9, _), (10, _), (11, _), (12, _), (13, _), (15, _), (99, _), (100, _), (101, _), (112, _)]) rfl ?_
  refine KSs_wp ?_
  refine WPs_condF rfl ?_
  refine WPs_seq ?_
  refine WPs_regionK [1, 8, 9, 10, 11, 12, 13, 15, 99, 100, 101, 121] ?_
  refine s_move rfl rfl ?_
  refine s_call Tryz.call141 rfl (vs := [_]) rfl (RCs.perm (by (repeat ((exact List.Perm.refl _)))) (clF2_141_1)) ?_
  rintro v w ⟨rfl, hS⟩
  refine SXs_go hS ?_
  clear hS; clear w
  simp only [putF]
  refine c_leq true rfl rfl rfl (by kernel_rfl) ?_
  refine s_move rfl rfl ?_
  refine s_guard_t2 rfl rfl (by ((rfl))) rfl ?_
  refine s_move rfl rfl ?_
  refine s_guard_t2 rfl rfl (by ((rfl))) rfl ?_
  refine s_call Tryz.call141 rfl (vs := [_]) rfl (RCs.perm (by (repeat ((exact List.Perm.refl _)))) (clF2_141_1)) ?_
  rintro v w ⟨rfl, hS⟩
  refine SXs_go hS ?_
  clear hS; clear w
  simp only [putF]
  refine s_guard_t2 rfl rfl (by ((rfl))) rfl ?_
  refine c_leq true rfl rfl rfl (by kernel_rfl) ?_
  refine s_pick_t rfl rfl rfl ?_
  refine s_assign rfl rfl ?_
  refine SXs_nilK (fr' := [(1, _), (8, _), (9, _), (10, _), (11, _), (12, _), (13, _), (15, _), (99, _), (100, _), (101, _), (121, _)]) rfl ?_
  refine KSs_wp ?_
  refine WPs_condT rfl ?_
  refine WPs_regionK [1, 8, 9, 10, 11, 12, 13, 16, 99, 100, 101] ?_
  refine s_move rfl rfl ?_
  refine s_call Tryz.call141 rfl (vs := [_]) rfl (RCs.perm (by (repeat ((exact List.Perm.refl _)))) (clF2_141_1)) ?_
  rintro v w ⟨rfl, hS⟩
  refine SXs_go hS ?_
  clear hS; clear w
  simp only [putF]
  refine s_sub' (c := 5) rfl rfl rfl (by kernel_rfl) ?_
  refine s_add' (c := 15) rfl rfl rfl (by kernel_rfl) ?_
  refine s_assign rfl rfl ?_
  refine SXs_nilK (fr' := [(1, _), (8, _), (9, _), (10, _), (11, _), (12, _), (13, _), (16, _), (99, _), (100, _), (101, _)]) rfl ?_
  refine KSs_wp ?_
  refine WPs_seq ?_
  refine WPs_seq ?_
  refine WPs_regionK [1, 8, 9, 10, 11, 12, 13, 16, 99, 100, 101, 137] ?_
  refine s_move rfl rfl ?_
  refine s_move rfl rfl ?_
  refine s_conv (c := 16) Tryz.underlying3 Tryz.underlying5 rfl rfl (by kernel_rfl) ?_
  refine c_geq false rfl rfl rfl (by kernel_rfl) ?_
  refine SXs_nilK (fr' := [(1, _), (8, _), (9, _), (10, _), (11, _), (12, _), (13, _), (16, _), (99, _), (100, _), (101, _), (137, _)]) rfl ?_
  refine KSs_wp ?_
  refine WPs_condF rfl ?_
  refine WPs_skip ?_
  refine KSs_wp ?_
  refine WPs_seq ?_
  refine WPs_seq ?_
  refine WPs_regionK [1, 8, 9, 10, 11, 12, 13, 16, 99, 100, 101, 141] ?_
  refine s_move rfl rfl ?_
  refine s_move rfl rfl ?_
  refine c_geq false rfl rfl rfl (by kernel_rfl) ?_
  refine SXs_nilK (fr' := [(1, _), (8, _), (9, _), (10, _), (11, _), (12, _), (13, _), (16, _), (99, _), (100, _), (101, _), (141, _)]) rfl ?_
  refine KSs_wp ?_
  refine WPs_condF rfl ?_
  refine WPs_skip ?_
  refine KSs_wp ?_
  refine WPs_seq ?_
  refine WPs_regionK [1, 8, 9, 10, 11, 12, 13, 16, 99, 100, 101] ?_
  refine s_move rfl rfl ?_
  refine s_move rfl rfl ?_
  refine s_conv (c := 16) Tryz.underlying3 Tryz.underlying36 rfl rfl (by kernel_rfl) ?_
  refine s_mul' (c := 0) rfl rfl rfl (by kernel_rfl) ?_
  refine s_assign rfl rfl ?_
  refine SXs_nilK (fr' := [(1, _), (8, _), (9, _), (10, _), (11, _), (12, _), (13, _), (16, _), (99, _), (100, _), (101, _)]) rfl ?_
  refine KSs_wp ?_
  refine WPs_seq ?_
  refine WPs_regionK [1, 8, 9, 10, 11, 12, 13, 17, 99, 100, 101] ?_
  refine s_move rfl rfl ?_
  refine s_move rfl rfl ?_
  refine s_conv (c := 15) Tryz.underlying5 Tryz.underlying36 rfl rfl (by kernel_rfl) ?_
  refine s_add' (c := 15) rfl rfl rfl (by kernel_rfl) ?_
  refine s_assign rfl rfl ?_
  refine SXs_nilK (fr' := [(1, _), (8, _), (9, _), (10, _), (11, _), (12, _), (13, _), (17, _), (99, _), (100, _), (101, _)]) rfl ?_
  refine KSs_wp ?_
  refine WPs_seq ?_
  refine WPs_seq ?_
  refine WPs_regionK [1, 8, 9, 10, 11, 12, 17, 99, 100, 101, 159] ?_
  refine s_move rfl rfl ?_
  refine s_move rfl rfl ?_
  refine c_lss false rfl rfl rfl (by kernel_rfl) ?_
  refine s_move rfl rfl ?_
  refine s_guard_t2 rfl rfl (by ((rfl))) rfl ?_
  refine s_move rfl rfl ?_
  refine s_guard_t2 rfl rfl (by ((rfl))) rfl ?_
  refine s_move rfl rfl ?_
  refine s_guard_t2 rfl rfl (by ((rfl))) rfl ?_
  refine c_gtr false rfl rfl rfl (by kernel_rfl) ?_
  refine s_pick_f rfl rfl rfl ?_
  refine SXs_nilK (fr' := [(1, _), (8, _), (9, _), (10, _), (11, _), (12, _), (17, _), (99, _), (100, _), (101, _), (159, _)]) rfl ?_
  refine KSs_wp ?_
  refine WPs_condF rfl ?_
  refine WPs_skip ?_
  refine KSs_wp ?_
  refine WPs_regionK [1, 8, 9, 10, 11, 12, 13, 99, 100, 101] ?_
  refine s_move rfl rfl ?_
  refine s_assign rfl rfl ?_
  refine SXs_nilK (fr' := [(1, _), (8, _), (9, _), (10, _), (11, _), (12, _), (13, _), (99, _), (100, _), (101, _)]) rfl ?_
  refine KSs_wp ?_
  refine WPs_regionK [1, 8, 9, 10, 11, 12, 13, 99, 100, 101] ?_
  refine s_add' (c := 5) rfl rfl rfl (by kernel_rfl) ?_
  refine s_move rfl rfl ?_
  refine SXs_nilK (fr' := [(1, _), (8, _), (9, _), (10, _), (11, _), (12, _), (13, _), (99, _), (100, _), (101, _)]) rfl ?_
  refine KSs_unroll (N := 54) ?_
  refine WPs_seq ?_
  refine WPs_regionK [1, 8, 9, 10, 11, 12, 13, 99, 100, 101, 102] ?_
  refine c_lss true rfl rfl rfl (by kernel_rfl) ?_
  refine SXs_nilK (fr' := [(1, _), (8, _), (9, _), (10, _), (11, _), (12, _), (13, _), (99, _), (100, _), (101, _), (102, _)]) rfl ?_
  refine KSs_wp ?_
  refine WPs_seq ?_
  refine WPs_condT rfl ?_
  refine WPs_skip ?_
  refine KSs_wp ?_
  refine WPs_seq ?_
  refine WPs_block ?_
  refine WPs_seq ?_
  refine WPs_regionK [1, 8, 9, 10, 11, 12, 13, 15, 99, 100, 101] ?_
  refine s_idxRd slt_42 rfl rfl hR99 rfl (by decide) (by decide) (fun b103 o103 hc103 => ?_)
  refine s_load1 (v := .int .u8 70) Tryz.isAgg5 rfl rfl (hc103.at0 rfl) ?_
  refine s_assign rfl rfl ?_
  refine SXs_nilK (fr' := [(1, _), (8, _), (9, _), (10, _), (11, _), (12, _), (13, _), (15, _), (99, _), (100, _), (101, _)]) rfl ?_
  refine KSs_wp ?_
  refine WPs_seq ?_
  refine WPs_regionK [1, 8, 9, 10, 11, 12, 13, 15, 99, 100, 101] ?_
  refine s_assign rfl rfl ?_
  refine SXs_nilK (fr' := [(1, _), (8, _), (9, _), (10, _), (11, _), (12, _), (13, _), (15, _), (99, _), (100, _), (101, _)]) rfl ?_
  refine KSs_wp ?_
  refine WPs_seq ?_
  refine WPs_block ?_
  refine WPs_seq ?_
  refine WPs_regionK [1, 8, 9, 10, 11, 12, 13, 15, 99, 100, 101, 106] ?_
  refine s_move rfl rfl ?_
  refine c_eql false rfl rfl rfl (by kernel_rfl) ?_
  refine s_move rfl rfl ?_
  refine s_guard_f rfl rfl (by ((rfl))) rfl ?_
  refine s_pick_f rfl rfl rfl ?_
  refine s_assign rfl rfl ?_
  refine SXs_nilK (fr' := [(1, _), (8, _), (9, _), (10, _), (11, _), (12, _), (13, _), (15, _), (99, _), (100, _), (101, _), (106, _)]) rfl ?_
  refine KSs_wp ?_
  refine WPs_condF rfl ?_
  refine WPs_seq ?_
  refine WPs_regionK [1, 8, 9, 10, 11, 12, 13, 15, 99, 100, 101, 112] ?_
  refine s_move rfl rfl ?_
  refine c_leq true rfl rfl rfl (by kernel_rfl) ?_
  refine s_move rfl rfl ?_
  refine s_guard_t2 rfl rfl (by ((rfl))) rfl ?_
  refine s_move rfl rfl ?_
  refine s_guard_t2 rfl rfl (by ((rfl))) rfl ?_
  refine c_leq false rfl rfl rfl (by kernel_rfl) ?_
  refine s_pick_t rfl rfl rfl ?_
  refine s_assign rfl rfl ?_
  refine SXs_nilK (fr' := [(1, _), (8, _), (9, _), (10, _), (11, _), (12, _), (13, _), (15, _), (99, _), (100, _), (101, _), (112, _)]) rfl ?_
  refine KSs_wp ?_
  refine WPs_condF rfl ?_
  refine WPs_seq ?_
  refine WPs_regionK [1, 8, 9, 10, 11, 12, 13, 15, 99, 100, 101, 121] ?_
  refine s_move rfl rfl ?_
  refine s_call Tryz.call141 rfl (vs := [_]) rfl (RCs.perm (by (repeat ((exact List.Perm.refl _)))) (clF2_141_1)) ?_
  rintro v w ⟨rfl, hS⟩
  refine SXs_go hS ?_
  clear hS; clear w
  simp only [putF]
  refine c_leq true rfl rfl rfl (by kernel_rfl) ?_
  refine s_move rfl rfl ?_
  refine s_guard_t2 rfl rfl (by ((rfl))) rfl ?_
  refine s_move rfl rfl ?_
  refine s_guard_t2 rfl rfl (by ((rfl))) rfl ?_
  refine s_call Tryz.call141 rfl (vs := [_]) rfl (RCs.perm (by (repeat ((exact List.Perm.refl _)))) (clF2_141_1)) ?_
  rintro v w ⟨rfl, hS⟩
  refine SXs_go hS ?_
  clear hS; clear w
  simp only [putF]
  refine s_guard_t2 rfl rfl (by ((rfl))) rfl ?_
  refine c_leq true rfl rfl rfl (by kernel_rfl) ?_
  refine s_pick_t rfl rfl rfl ?_
  refine s_assign rfl rfl ?_
  refine SXs_nilK (fr' := [(1, _), (8, _), (9, _), (10, _), (11, _), (12, _), (13, _), (15, _), (99, _), (100, _), (101, _), (121, _)]) rfl ?_
  refine KSs_wp ?_
  refine WPs_condT rfl ?_
  refine WPs_regionK [1, 8, 9, 10, 11, 12, 13, 16, 99, 100, 101] ?_
  refine s_move rfl rfl ?_
  refine s_call Tryz.call141 rfl (vs := [_]) rfl (RCs.perm (by (repeat ((exact List.Perm.refl _)))) (clF2_141_1)) ?_
  rintro v w ⟨rfl, hS⟩
  refine SXs_go hS ?_
  clear hS; clear w
  simp only [putF]
  refine s_sub' (c := 5) rfl rfl rfl (by kernel_rfl) ?_
  refine s_add' (c := 15) rfl rfl rfl (by kernel_rfl) ?_
  refine s_assign rfl rfl ?_
  refine SXs_nilK (fr' := [(1, _), (8, _), (9, _), (10, _), (11, _), (12, _), (13, _), (16, _), (99, _), (100, _), (101, _)]) rfl ?_
  refine KSs_wp ?_
  refine WPs_seq ?_
  refine WPs_seq ?_
  refine WPs_regionK [1, 8, 9, 10, 11, 12, 13, 16, 99, 100, 101, 137] ?_
  refine s_move rfl rfl ?_
  refine s_move rfl rfl ?_
  refine s_conv (c := 16) Tryz.underlying3 Tryz.underlying5 rfl rfl (by kernel_rfl) ?_
  refine c_geq false rfl rfl rfl (by kernel_rfl) ?_
  refine SXs_nilK (fr' := [(1, _), (8, _), (9, _), (10, _), (11, _), (12, _), (13, _), (16, _), (99, _), (100, _), (101, _), (137, _)]) rfl ?_
  refine KSs_wp ?_
  refine WPs_condF rfl ?_
  refine WPs_skip ?_
  refine KSs_wp ?_
  refine WPs_seq ?_
  refine WPs_seq ?_
  refine WPs_regionK [1, 8, 9, 10, 11, 12, 13, 16, 99, 100, 101, 141] ?_
  refine s_move rfl rfl ?_
  refine s_move rfl rfl ?_
  refine c_geq false rfl rfl rfl (by kernel_rfl) ?_
  refine SXs_nilK (fr' := [(1, _), (8, _), (9, _), (10, _), (11, _), (12, _), (13, _), (16, _), (99, _), (100, _), (101, _), (141, _)]) rfl ?_
  refine KSs_wp ?_
  refine WPs_condF rfl ?_
  refine WPs_skip ?_
  refine KSs_wp ?_
  refine WPs_seq ?_
  refine WPs_regionK [1, 8, 9, 10, 11, 12, 13, 16, 99, 100, 101] ?_
  refine s_move rfl rfl ?_
  refine s_move rfl rfl ?_
  refine s_conv (c := 16) Tryz.underlying3 Tryz.underlying36 rfl rfl (by kernel_rfl) ?_
  refine s_mul' (c := 240) rfl rfl rfl (by kernel_rfl) ?_
  refine s_assign rfl rfl ?_
  refine SXs_nilK (fr' := [(1, _), (8, _), (9, _), (10, _), (11, _), (12, _), (13, _), (16, _), (99, _), (100, _), (101, _)]) rfl ?_
  refine KSs_wp ?_
  refine WPs_seq ?_
  refine WPs_regionK [1, 8, 9, 10, 11, 12, 13, 17, 99, 100, 101] ?_
  refine s_move rfl rfl ?_
  refine s_move rfl rfl ?_
  refine s_conv (c := 15) Tryz.underlying5 Tryz.underlying36 rfl rfl (by kernel_rfl) ?_
  refine s_add' (c := 255) rfl rfl rfl (by kernel_rfl) ?_
  refine s_assign rfl rfl ?_
  refine SXs_nilK (fr' := [(1, _), (8, _), (9, _), (10, _), (11, _), (12, _), (13, _), (17, _), (99, _), (100, _), (101, _)]) rfl ?_
  refine KSs_wp ?_
  refine WPs_seq ?_
  refine WPs_seq ?_
  refine WPs_regionK [1, 8, 9, 10, 11, 12, 17, 99, 100, 101, 159] ?_
  refine s_move rfl rfl ?_
  refine s_move rfl rfl ?_
  refine c_lss false rfl rfl rfl (by kernel_rfl) ?_
  refine s_move rfl rfl ?_
  refine s_guard_t2 rfl rfl (by ((rfl))) rfl ?_
  refine s_move rfl rfl ?_
  refine s_guard_t2 rfl rfl (by ((rfl))) rfl ?_
  refine s_move rfl rfl ?_
  refine s_guard_t2 rfl rfl (by ((rfl))) rfl ?_
  refine c_gtr false rfl rfl rfl (by kernel_rfl) ?_
  refine s_pick_f rfl rfl rfl ?_
  refine SXs_nilK (fr' := [(1, _), (8, _), (9, _), (10, _), (11, _), (12, _), (17, _), (99, _), (100, _), (101, _), (159, _)]) rfl ?_
  refine KSs_wp ?_
  refine WPs_condF rfl ?_
  refine WPs_skip ?_
  refine KSs_wp ?_
  refine WPs_regionK [1, 8, 9, 10, 11, 12, 13, 99, 100, 101] ?_
  refine s_move rfl rfl ?_
  refine s_assign rfl rfl ?_
  refine SXs_nilK (fr' := [(1, _), (8, _), (9, _), (10, _), (11, _), (12, _), (13, _), (99, _), (100, _), (101, _)]) rfl ?_
  refine KSs_wp ?_
  refine WPs_regionK [1, 8, 9, 10, 11, 12, 13, 99, 100, 101] ?_
  refine s_add' (c := 6) rfl rfl rfl (by kernel_rfl) ?_
  refine s_move rfl rfl ?_
  refine SXs_nilK (fr' := [(1, _), (8, _), (9, _), (10, _), (11, _), (12, _), (13, _), (99, _), (100, _), (101, _)]) rfl ?_
  refine KSs_unroll (N := 53) ?_
  refine WPs_seq ?_
  refine WPs_regionK [1, 8, 9, 10, 11, 12, 13, 99, 100, 101, 102] ?_
  refine c_lss false rfl rfl rfl (by kernel_rfl) ?_
  refine SXs_nilK (fr' := [(1, _), (8, _), (9, _), (10, _), (11, _), (12, _), (13, _), (99, _), (100, _), (101, _), (102, _)]) rfl ?_
  refine KSs_wp ?_
  refine WPs_seq ?_
  refine WPs_condF rfl ?_
  refine WPs_exit rfl ?_
  refine KSs_wp ?_
  refine WPs_seq ?_
  refine WPs_seq ?_
  refine WPs_regionK [13, 169] ?_
  refine s_move rfl rfl ?_
  refine s_move rfl rfl ?_
  refine s_guard_f rfl rfl (by ((rfl))) rfl ?_
  refine s_guard_f rfl rfl (by ((rfl))) rfl ?_
  refine s_guard_f rfl rfl (by ((rfl))) rfl ?_
  refine s_pick_f rfl rfl rfl ?_
  refine SXs_nilK (fr' := [(13, _), (169, _)]) rfl ?_
  refine KSs_wp ?_
  refine WPs_condF rfl ?_
  refine WPs_skip ?_
  refine KSs_wp ?_
  refine WPs_seq ?_
  refine WPs_regionK [6, 7] ?_
  refine s_move rfl rfl ?_
  refine s_assign rfl rfl ?_
  refine s_assign rfl rfl ?_
  refine SXs_nilK (fr' := [(6, _), (7, _)]) rfl ?_
  refine KSs_wp ?_
  refine WPs_ret ?_
  refine RLs_start ?_
  refine RLs_tmp rfl ?_
  refine RLs_tmp rfl ?_
  refine RLs_fin2 ?_
  exact fun w hS => ⟨rfl, hS.sl (by (repeat (first | exact Sl.refl _ | refine Sl.skip ?_)))⟩

/-- strconv.ParseUint -/
theorem clF2_61_1 {g : World} {F : List HP} : RCs Tryz.prog 61 [(.string ⟨#[48, 48, 48, 48, 70, 70]⟩), (.int .i64 16), (.int .i64 32)] g F (fun u w => u = .tuple #[(.int .u64 255), .nilIface] ∧ St g w F) := by
  refine RCs_of_WPs Tryz.func61 rfl Tryz.ntmps61 rfl Tryz.results61 ?_
  refine WPs_seq ?_
  refine WPs_regionK [0, 1, 2] ?_
  refine s_assign rfl rfl ?_
  refine s_assign rfl rfl ?_
  refine SXs_nilK (fr' := [(0, _), (1, _), (2, _)]) rfl ?_
  refine KSs_wp ?_
  refine WPs_seq ?_
  refine WPs_regionK [0, 1, 2, 8, 9] ?_
  refine s_move rfl rfl ?_
  refine s_move rfl rfl ?_
  refine s_move rfl rfl ?_
  refine s_call Tryz.call109 rfl (vs := [_, _, _]) rfl (RCs.perm (by (repeat ((exact List.Perm.refl _)))) (clF2_109_1)) ?_
  rintro v w ⟨rfl, hS⟩
  refine SXs_go hS ?_
  clear hS; clear w
  simp only [putF]
  refine s_move rfl rfl ?_
  refine s_extract rfl rfl rfl ?_
  refine s_extract rfl rfl rfl ?_
  refine s_assign rfl rfl ?_
  refine s_assign rfl rfl ?_
  refine SXs_nilK (fr' := [(0, _), (1, _), (2, _), (8, _), (9, _)]) rfl ?_
  refine KSs_wp ?_
  refine WPs_seq ?_
  refine WPs_seq ?_
  refine WPs_regionK [0, 1, 2, 8, 9, 18] ?_
  refine s_move rfl rfl ?_
  refine c_ifcNeq Tryz.underlying117 rfl rfl ?_
  refine SXs_nilK (fr' := [(0, _), (1, _), (2, _), (8, _), (9, _), (18, _)]) rfl ?_
  refine KSs_wp ?_
  refine WPs_condF rfl ?_
  refine WPs_skip ?_
  refine KSs_wp ?_
  refine WPs_seq ?_
  refine WPs_regionK [6, 7] ?_
  refine s_move rfl rfl ?_
  refine s_assign rfl rfl ?_
  refine s_assign rfl rfl ?_
  refine SXs_nilK (fr' := [(6, _), (7, _)]) rfl ?_
  refine KSs_wp ?_
  refine WPs_ret ?_
  refine RLs_start ?_
  refine RLs_tmp rfl ?_
  refine RLs_tmp rfl ?_
  refine RLs_fin2 ?_
  exact fun w hS => ⟨rfl, hS.sl (by (repeat ((exact Sl.refl _))))⟩

/-- hourbook/seg.Id -/
theorem clF2_26_1 {g : World} {F : List HP} (hG : DeG g) : RCs Tryz.prog 26 [(.string ⟨#[115, 101, 103, 45, 48, 48, 48, 48, 70, 70]⟩)] g F (fun u w => u = .tuple #[(.int .u32 0), (.bool false)] ∧ St g w F) := by
  refine RCs_of_WPs Tryz.func26 rfl Tryz.ntmps26 rfl Tryz.results26 ?_
  refine WPs_seq ?_
  refine WPs_regionK [0] ?_
  refine s_assign rfl rfl ?_
  refine s_assign rfl rfl ?_
  refine SXs_nilK (fr' := [(0, _)]) rfl ?_
  refine KSs_wp ?_
  refine WPs_seq ?_
  refine WPs_seq ?_
  refine WPs_regionK [0, 8] ?_
  refine s_move rfl rfl ?_
  refine c_lenStr 10 rfl Tryz.underlying9 rfl rfl (by kernel_rfl) ?_
  refine c_neq false rfl rfl rfl (by kernel_rfl) ?_
  refine SXs_nilK (fr' := [(0, _), (8, _)]) rfl ?_
  refine KSs_wp ?_
  refine WPs_condF rfl ?_
  refine WPs_skip ?_
  refine KSs_wp ?_
  refine WPs_seq ?_
  refine WPs_regionK [0, 4, 5] ?_
  refine s_move rfl rfl ?_
  refine c_sliceStr (l := 4) (m := 10) (vlo := some _) (vhi := none) ⟨#[48, 48, 48, 48, 70, 70]⟩ Tryz.underlying9 rfl rfl rfl trivial (.inl rfl) (.inr ⟨rfl, rfl⟩) (by kernel_rfl) (by kernel_rfl) (by kernel_rfl) ?_
  refine s_call Tryz.call61 rfl (vs := [_, _, _]) rfl (RCs.perm (by (repeat ((exact List.Perm.refl _)))) (clF2_61_1)) ?_
  rintro v w ⟨rfl, hS⟩
  refine SXs_go hS ?_
  clear hS; clear w
  simp only [putF]
  refine s_move rfl rfl ?_
  refine s_extract rfl rfl rfl ?_
  refine s_extract rfl rfl rfl ?_
  refine s_assign rfl rfl ?_
  refine s_assign rfl rfl ?_
  refine SXs_nilK (fr' := [(0, _), (4, _), (5, _)]) rfl ?_
  refine KSs_wp ?_
  refine WPs_seq ?_
  refine WPs_seq ?_
  refine WPs_regionK [4, 23] ?_
  refine s_move rfl rfl ?_
  refine c_ifcNeq Tryz.underlying117 rfl rfl ?_
  refine s_move rfl rfl ?_
  refine s_guard_t2 rfl rfl (by ((rfl))) rfl ?_
  refine s_move rfl rfl ?_
  refine s_guard_t2 rfl rfl (by ((rfl))) rfl ?_
  refine s_conv (c := 255) Tryz.underlying36 Tryz.underlying34 rfl rfl (by kernel_rfl) ?_
  refine s_guard_t2 rfl rfl (by ((rfl))) rfl ?_
  refine s_call Tryz.call12 rfl (vs := [_]) rfl (RCs.perm (by (repeat ((exact List.Perm.refl _)))) (clF2_12_0 hG)) ?_
  rintro v w ⟨rfl, hS⟩
  refine SXs_go hS ?_
  clear hS; clear w
  simp only [putF]
  refine s_guard_t2 rfl rfl (by ((rfl))) rfl ?_
  refine s_move rfl rfl ?_
  refine s_guard_t2 rfl rfl (by ((rfl))) rfl ?_
  refine c_strNeq true rfl rfl rfl (by kernel_rfl) ?_
  refine s_pick_f rfl rfl rfl ?_
  refine SXs_nilK (fr' := [(4, _), (23, _)]) rfl ?_
  refine KSs_wp ?_
  refine WPs_condT rfl ?_
  refine WPs_seq ?_
  refine WPs_regionK [2, 3] ?_
  refine s_assign rfl rfl ?_
  refine s_assign rfl rfl ?_
  refine SXs_nilK (fr' := [(2, _), (3, _)]) rfl ?_
  refine KSs_wp ?_
  refine WPs_ret ?_
  refine RLs_start ?_
  refine RLs_tmp rfl ?_
  refine RLs_tmp rfl ?_
  refine RLs_fin2 ?_
  exact fun w hS => ⟨rfl, hS.sl (by (repeat ((exact Sl.refl _))))⟩

theorem idFF {g : World} {F : List HP} (hG : DeG g) : RCs Tryz.prog 26 [(.string ⟨#[115, 101, 103, 45, 48, 48, 48, 48, 70, 70]⟩)] g F (fun u w => u = .tuple #[(.int .u32 0), (.bool false)] ∧ St g w F) := clF2_26_1 hG

end Go.Proofs.YthodbnmeggkkoaaGreatDoor
/-
  Package seg: is, asks, none, Seal, Sync; a segment in memory.
-/
namespace Go.Proofs.YthodbnmeggkkoaaGreatDoor
open Go Go.RowKit Go.Hb Go.Proofs

def NameOk (g : World) (id : Nat) (nm : ByteArray) : Prop := ∀ (F : List HP), RCs Tryz.prog 12 [.int .u32 (id : Int)] g F (fun u w => u = .string nm ∧ St g w F)

theorem seg_is {g : World} {F : List HP} {id : Nat} (h1 : 1 ≤ id) (h2 : id ≤ 16777215) : RCs Tryz.prog 32 [.int .u32 (id : Int)] g F (fun u w => u = .bool true ∧ St g w F) := by
  refine RCs_of_WPs Tryz.func32 rfl Tryz.ntmps32 rfl Tryz.results32 ?_
  refine WPs_seq ?_
  refine WPs_regionK [0] ?_
  refine s_assign rfl rfl ?_
  refine SXs_nilK (fr' := [(0, _)]) rfl ?_
  refine KSs_wp ?_
  refine WPs_seq ?_
  refine WPs_regionK [2] ?_
  refine s_move rfl rfl ?_
  refine s_geq rfl rfl rfl ?_
  refine s_move rfl rfl ?_
  refine s_guard rfl rfl rfl (fun hc1 => ?_) (fun hc1 => ?_)
  · simp only [decide_eq_true_eq] at hc1
    refine s_move rfl rfl ?_
    refine s_guard_t2 rfl rfl (by ((simp; assumption))) rfl ?_
    refine s_leq rfl rfl rfl ?_
    refine s_pickB rfl rfl rfl rfl ?_
    refine s_assign rfl rfl ?_
    refine SXs_nilK (fr' := [(2, _)]) rfl ?_
    refine KSs_wp ?_
    refine WPs_ret ?_
    refine RLs_start ?_
    refine RLs_tmp rfl ?_
    refine RLs_fin1 ?_
    exact fun w hS => ⟨by (simp; omega), hS⟩
  · (exfalso; (simp only [decide_eq_false_iff_not, Bool.not_true] at hc1; omega))
theorem seg_asks {g : World} {F : List HP} {id : Nat} {a : Addr} (h1 : 1 ≤ id) (h2 : id ≤ 16777215) : RCs Tryz.prog 38 [.pointer (some a), .int .u32 (id : Int)] g F (fun u w => u = .int .i64 0 ∧ St g w F) := by
  refine RCs_of_WPs Tryz.func38 rfl Tryz.ntmps38 rfl Tryz.results38 ?_
  refine WPs_seq ?_
  refine WPs_regionK [0, 1] ?_
  refine s_assign rfl rfl ?_
  refine SXs_nilK (fr' := [(0, _), (1, _)]) rfl ?_
  refine KSs_wp ?_
  refine WPs_seq ?_
  refine WPs_block ?_
  refine WPs_seq ?_
  refine WPs_regionK [1, 5] ?_
  refine s_move rfl rfl ?_
  refine s_eqlV rfl rfl rfl (eq_ptr_nil_some Tryz.underlying25) ?_
  refine s_assign rfl rfl ?_
  refine SXs_nilK (fr' := [(1, _), (5, _)]) rfl ?_
  refine KSs_wp ?_
  refine WPs_cond rfl (fun hc1 => ?_) (fun hc1 => ?_)
  · (exfalso; (cases hc1; done))
  · simp only [decide_eq_true_eq] at hc1
    refine WPs_seq ?_
    refine WPs_regionK [8] ?_
    refine s_move rfl rfl ?_
    refine s_call Tryz.call32 rfl (vs := [_]) rfl (RCs.perm (by (repeat ((exact List.Perm.refl _)))) (seg_is h1 h2)) ?_
    rintro v w ⟨rfl, hS⟩
    refine SXs_go hS ?_
    clear hS; clear w
    simp only [putF]
    refine s_not rfl rfl ?_
    refine s_assign rfl rfl ?_
    refine SXs_nilK (fr' := [(8, _)]) rfl ?_
    refine KSs_wp ?_
    refine WPs_cond rfl (fun hc2 => ?_) (fun hc2 => ?_)
    · (exfalso; (cases hc2; done))
    · simp only [Bool.not_true] at hc2
      refine WPs_skip ?_
      refine KSs_wp ?_
      refine WPs_seq ?_
      refine WPs_regionK [4] ?_
      refine s_assign rfl rfl ?_
      refine SXs_nilK (fr' := [(4, _)]) rfl ?_
      refine KSs_wp ?_
      refine WPs_ret ?_
      refine RLs_start ?_
      refine RLs_tmp rfl ?_
      refine RLs_fin1 ?_
      exact fun w hS => ⟨rfl, hS⟩
theorem seg_none {g : World} {F : List HP} {x : Nat} {a : Addr} {c1 c2 c3 c4 c5 c6 : Value} :
    RCs Tryz.prog 28 [.pointer (some ⟨x, 0, none⟩)] g (pt x (.cells [.pointer (some a), c1, c2, c3, c4, c5, c6].toArray 79 (0, 0)) :: F)
      (fun u w => u = .bool false ∧ St g w (pt x (.cells [.pointer (some a), c1, c2, c3, c4, c5, c6].toArray 79 (0, 0)) :: F)) := by
  refine RCs_of_WPs Tryz.func28 rfl Tryz.ntmps28 rfl Tryz.results28 ?_
  refine WPs_seq ?_
  refine WPs_regionK [0] ?_
  refine s_assign rfl rfl ?_
  refine SXs_nilK (fr' := [(0, _)]) rfl ?_
  refine KSs_wp ?_
  refine WPs_seq ?_
  refine WPs_regionK [2] ?_
  refine s_move rfl rfl ?_
  refine s_eqlV rfl rfl rfl (eq_ptr_nil_some Tryz.underlying30) ?_
  refine s_move rfl rfl ?_
  refine s_guard rfl rfl rfl (fun hc1 => ?_) (fun hc1 => ?_)
  · simp only [decide_eq_true_eq] at hc1
    refine s_move rfl rfl ?_
    refine s_guard_t2 rfl rfl (by ((rfl))) rfl ?_
    refine s_nilCheck rfl rfl ?_
    refine s_guard_t2 rfl rfl (by ((rfl))) rfl ?_
    refine s_fieldAddr fo_79_0 rfl rfl ?_
    refine s_guard_t2 rfl rfl (by ((rfl))) rfl ?_
    refine s_load1 Tryz.isAgg25 rfl rfl (by exact cin (i := 0) rfl rfl) ?_
    refine s_guard_t2 rfl rfl (by ((rfl))) rfl ?_
    refine s_eqlV rfl rfl rfl (eq_ptr_nil_some Tryz.underlying25) ?_
    refine s_pick_f rfl rfl rfl ?_
    refine s_assign rfl rfl ?_
    refine SXs_nilK (fr' := [(2, _)]) rfl ?_
    refine KSs_wp ?_
    refine WPs_ret ?_
    refine RLs_start ?_
    refine RLs_tmp rfl ?_
    refine RLs_fin1 ?_
    exact fun w hS => ⟨rfl, hS⟩
  · (exfalso; (cases hc1; done))
abbrev segP (x f id size many first last safe : Nat) : HP := pt x (.cells [.pointer (some ⟨f, 0, none⟩), .int .u32 (id : Int), .int .u32 (size : Int), .int .u32 (many : Int), .int .u64 (first : Int), .int .u64 (last : Int), .int .u64 (safe : Int)].toArray 79 (0, 0))
theorem seg_seal {g : World} {F : List HP} {x f id size many first last safe : Nat} :
    RCs Tryz.prog 10 [.pointer (some ⟨x, 0, none⟩)] g (segP x f id size many first last safe :: F)
      (fun u w => u = .agg [.int .u32 (id : Int), .int .u32 (size : Int), .int .u32 (many : Int), .int .u64 (first : Int), .int .u64 (last : Int)].toArray ∧ St g w (segP x f id size many first last safe :: F)) := by
  refine RCs_of_WPs Tryz.func10 rfl Tryz.ntmps10 rfl Tryz.results10 ?_
  refine WPs_seq ?_
  refine WPs_regionK [0, 2] ?_
  refine s_alloc Tryz.zeroValue38 (cl := [_, _, _, _, _]) rfl rfl (fun b2 => ?_)
  refine SXs_nilK (fr' := [(0, _), (2, _)]) rfl ?_
  refine KSs_wp ?_
  refine WPs_seq ?_
  refine WPs_seq ?_
  refine WPs_regionK [0, 2, 4] ?_
  refine s_move rfl rfl ?_
  refine s_call Tryz.call28 rfl (vs := [_]) rfl (RCs.perm (by (repeat (first | exact List.Perm.refl _ | (apply pick 1; exact rfl)))) (seg_none)) ?_
  rintro v w ⟨rfl, hS⟩
  refine SXs_go hS ?_
  clear hS; clear w
  simp only [List.eraseIdx_cons_zero, List.eraseIdx_cons_succ, putF]
  refine SXs_nilK (fr' := [(0, _), (2, _), (4, _)]) rfl ?_
  refine KSs_wp ?_
  refine WPs_cond rfl (fun hc1 => ?_) (fun hc1 => ?_)
  · (exfalso; (cases hc1; done))
  · simp only [decide_eq_true_eq] at hc1
    refine WPs_skip ?_
    refine KSs_wp ?_
    refine WPs_seq ?_
    refine WPs_regionK [2] ?_
    refine s_move rfl rfl ?_
    refine s_nilCheck rfl rfl ?_
    refine s_fieldAddr fo_79_1 rfl rfl ?_
    refine s_loadN Tryz.isAgg38 Tryz.sizeOf38 (vs := [_, _, _, _, _]) rfl rfl (by exact csin (i := 0) (k := 5) rfl rfl) rfl ?_
    refine s_store (i := 1) Tryz.sizeOf38 rfl rfl rfl (vs := [_, _, _, _, _]) rfl rfl rfl rfl ?_
    simp only [List.set_cons_zero, List.set_cons_succ, spl]
    refine SXs_nilK (fr' := [(2, _)]) rfl ?_
    refine KSs_wp ?_
    refine WPs_ret ?_
    refine RLs_start ?_
    refine RLs_cellN Tryz.isAgg38 Tryz.sizeOf38 (cs := [_, _, _, _, _]) rfl (by exact csin (i := 1) (k := 5) rfl rfl) rfl ?_
    refine RLs_fin1 ?_
    exact fun w hS => ⟨rfl, hS.sl (by (repeat (first | exact Sl.refl _ | (apply Sl.pick 0; exact rfl) | refine Sl.skip ?_)))⟩
theorem seg_sync {g : World} {F : List HP} {x f id size many first last safe : Nat} {q : Int} {ph : Bool} {nm : ByteArray} {m : FileM} (hn : NameOk g id nm) (hm : MayOk nm) (hsz : m.now.length ≤ 70368744177664) :
    RCs Tryz.prog 9 [.pointer (some ⟨x, 0, none⟩)] g (segP x f id size many first last safe :: FsR ph f nm q m :: F)
      (fun u w => u = .int .i64 0 ∧ St g w (segP x f id size many first last last :: FsR ph f nm q ⟨m.now, m.now, []⟩ :: F)) := by
  refine RCs_of_WPs Tryz.func9 rfl Tryz.ntmps9 rfl Tryz.results9 ?_
  refine WPs_seq ?_
  refine WPs_regionK [0] ?_
  refine s_assign rfl rfl ?_
  refine SXs_nilK (fr' := [(0, _)]) rfl ?_
  refine KSs_wp ?_
  refine WPs_seq ?_
  refine WPs_seq ?_
  refine WPs_regionK [0, 5] ?_
  refine s_move rfl rfl ?_
  refine s_call Tryz.call28 rfl (vs := [_]) rfl (RCs.perm (by (repeat ((exact List.Perm.refl _)))) (seg_none)) ?_
  rintro v w ⟨rfl, hS⟩
  refine SXs_go hS ?_
  clear hS; clear w
  simp only [putF]
  refine SXs_nilK (fr' := [(0, _), (5, _)]) rfl ?_
  refine KSs_wp ?_
  refine WPs_cond rfl (fun hc1 => ?_) (fun hc1 => ?_)
  · (exfalso; (cases hc1; done))
  · simp only [decide_eq_true_eq] at hc1
    refine WPs_skip ?_
    refine KSs_wp ?_
    refine WPs_seq ?_
    refine WPs_drawL [0, 3] [10, 11] Tryz.mixed rfl (listed := #[false, false, false, false, false, false, false, false, false, false, false, false]) rfl ?_
    refine st_take 0 rfl (by decide +kernel) (listed' := #[true, false, false, false, false, false, false, false, false, false, false, false]) rfl (by (intro _ h; (exact h))) (gv_move rfl rfl) ?_
    refine st_take 1 rfl (by decide +kernel) (listed' := #[true, true, false, false, false, false, false, false, false, false, false, false]) rfl (by (intro _ h; (exact h))) (gv_nilCheck rfl rfl) ?_
    refine st_take 2 rfl (by decide +kernel) (listed' := #[true, true, true, false, false, false, false, false, false, false, false, false]) rfl (by (intro _ h; (exact h))) (gv_fieldAddr fo_79_0 rfl rfl) ?_
    refine st_take 3 rfl (by decide +kernel) (listed' := #[true, true, true, true, false, false, false, false, false, false, false, false]) rfl (by (intro _ h; (exact h))) (gv_load1 Tryz.isAgg25 rfl rfl (by exact cin (i := 0) rfl rfl)) ?_
    refine st_take 4 rfl (by decide +kernel) (listed' := #[true, true, true, true, true, false, false, false, false, false, false, false]) rfl (by (intro _ h; (exact h))) (gv_move rfl rfl) ?_
    refine st_take 5 rfl (by decide +kernel) (listed' := #[true, true, true, true, true, true, false, false, false, false, false, false]) rfl (by (intro _ h; (exact h))) (gv_nilCheck rfl rfl) ?_
    refine st_take 6 rfl (by decide +kernel) (listed' := #[true, true, true, true, true, true, true, false, false, false, false, false]) rfl (by (intro _ h; (exact h))) (gv_fieldAddr fo_79_1 rfl rfl) ?_
    refine st_take 7 rfl (by decide +kernel) (listed' := #[true, true, true, true, true, true, true, true, false, false, false, false]) rfl (by (intro _ h; (exact h))) (gv_fieldAddr fo_38_0 rfl rfl) ?_
    refine st_take 8 rfl (by decide +kernel) (listed' := #[true, true, true, true, true, true, true, true, true, false, false, false]) rfl (by (intro _ h; (exact h))) (gv_load1 Tryz.isAgg34 rfl rfl (by exact cin (i := 0) rfl rfl)) ?_
    refine st_one 9 rfl (by decide +kernel) ?_
    refine s_call Tryz.call12 rfl (vs := [_]) rfl (RCs.perm (by (repeat ((exact List.Perm.refl _)))) (hn _)) ?_
    rintro v w ⟨rfl, hS⟩
    refine SXs_go hS ?_
    clear hS; clear w
    simp only [putF]
    refine st_next (listed' := #[true, true, true, true, true, true, true, true, true, true, false, false]) rfl (by intro _ _; (intro _ h; (exact h))) ?_
    refine st_one 10 rfl (by decide +kernel) ?_
    refine s_call Tryz.call29 rfl (vs := [_, _]) rfl (RCs.perm (by (repeat (first | exact List.Perm.refl _ | (apply pick 1; exact rfl)))) (fs_sync (m := m) hm hsz)) ?_
    rintro v w ⟨rfl, hS⟩
    refine SXs_go hS ?_
    clear hS; clear w
    simp only [List.eraseIdx_cons_zero, List.eraseIdx_cons_succ, putF]
    refine st_next (listed' := #[true, true, true, true, true, true, true, true, true, true, true, false]) rfl (by intro e; cases e) ?_
    refine st_one 11 rfl (by decide +kernel) ?_
    refine s_assign rfl rfl ?_
    refine st_next (listed' := #[true, true, true, true, true, true, true, true, true, true, true, true]) rfl (by intro e; cases e) ?_
    refine st_doneK (fr' := [(0, _), (3, _)]) (by decide +kernel) rfl ?_
    refine KSs_wp ?_
    refine WPs_seq ?_
    refine WPs_seq ?_
    refine WPs_regionK [0, 3, 18] ?_
    refine s_move rfl rfl ?_
    refine s_eql rfl rfl rfl ?_
    refine SXs_nilK (fr' := [(0, _), (3, _), (18, _)]) rfl ?_
    refine KSs_wp ?_
    refine WPs_cond rfl (fun hc2 => ?_) (fun hc2 => ?_)
    · simp only [decide_eq_true_eq] at hc2
      refine WPs_regionK [3] ?_
      refine s_move rfl rfl ?_
      refine s_move rfl rfl ?_
      refine s_nilCheck rfl rfl ?_
      refine s_fieldAddr fo_79_1 rfl rfl ?_
      refine s_fieldAddr fo_38_4 rfl rfl ?_
      refine s_load1 Tryz.isAgg36 rfl rfl (by exact cin (i := 1) rfl rfl) ?_
      refine s_nilCheck rfl rfl ?_
      refine s_fieldAddr fo_79_2 rfl rfl ?_
      refine s_store (i := 1) Tryz.sizeOf36 rfl rfl rfl (vs := [_]) rfl rfl rfl rfl ?_
      simp only [List.set_cons_zero, List.set_cons_succ, spl]
      refine SXs_nilK (fr' := [(3, _)]) rfl ?_
      refine KSs_wp ?_
      refine WPs_seq ?_
      refine WPs_regionK [2] ?_
      refine s_move rfl rfl ?_
      refine s_assign rfl rfl ?_
      refine SXs_nilK (fr' := [(2, _)]) rfl ?_
      refine KSs_wp ?_
      refine WPs_ret ?_
      refine RLs_start ?_
      refine RLs_tmp rfl ?_
      refine RLs_fin1 ?_
      exact fun w hS => ⟨rfl, hS.sl (by (repeat (first | exact Sl.refl _ | (apply Sl.pick 1; exact rfl))))⟩
    · (exfalso; (cases hc2; done))
end Go.Proofs.YthodbnmeggkkoaaGreatDoor
/-
  Package seg: Append.
-/
namespace Go.Proofs.YthodbnmeggkkoaaGreatDoor
open Go Go.RowKit Go.Hb Go.Proofs

theorem enc_length (kind : Nat) (r : RecM) : (encOf kind r).length = 25 + r.key.length + r.value.length := by
  simp [encOf, hdOf, le_length]; omega

theorem SXs_rdSub (F' : List HP) (i : Nat) {P : Program} {n : Nat} {fr : Fr} {g : World} {L : List HP} {K : Fr → World → Prop} {X : Ks} {ops : Array Oper} {T k m : Nat} {v : Value} {xs : List Value} {l : List Oper}
    (hsub : ∀ w, St g w L → St g w F') (hi : F'[i]? = some (own T k v m xs)) (h : RdIn g F' v k m xs → SXs P n ops l fr g L K X) : SXs P n ops l fr g L K X :=
  fun w hw => h (own_RdIn hi ⟨w, hsub w hw⟩) w hw

set_option maxHeartbeats 4000000 in
theorem seg_append {g : World} {F : List HP} {r : RecM} {ka va : Option Addr} {kc vc kind x f id size many first last safe : Nat} {q : Int} {ph : Bool} {nm : ByteArray} {m : FileM}
    (hH : HalfG g) (hSz : SizesG g) (hn : NameOk g id nm) (hm : MayOk nm) (hK : RdB g F (.slice ka r.key.length kc) r.key) (hV : RdB g F (.slice va r.value.length vc) r.value) (hok : recOk r) (hk : r.kind = (kind : Int))
    (hlast : last < r.seq) (hsize : size + (25 + r.key.length + r.value.length) ≤ 16777216) (hmany : many < 1048576)
    (hq : ((m.now.length + (25 + r.key.length + r.value.length) : Nat) : Int) ≤ q) (hq2 : q ≤ 1073741824) (hds : m.deeds.length ≤ 1099511627776) :
    RCs Tryz.prog 17 [.pointer (some ⟨x, 0, none⟩), .agg [.int .u64 (r.seq : Int), .int .i64 r.kind, .slice ka r.key.length kc, .slice va r.value.length vc, .int .u32 (r.ps : Int), .int .u32 (r.po : Int)].toArray] g (segP x f id size many first last safe :: FsR ph f nm q m :: F)
      (fun u w => u = .tuple #[.agg [.int .u32 (id : Int), .int .u32 (size : Int)].toArray, .int .i64 0] ∧
        St g w (segP x f id (size + (25 + r.key.length + r.value.length)) (many + 1) (if many = 0 then r.seq else first) r.seq safe :: FsR ph f nm q { m with now := m.now ++ encOf kind r, deeds := m.deeds ++ [.add (encOf kind r)] } :: F)) := by
  have hok' := hok
  unfold recOk at hok'
  have hel := enc_length kind r
  refine RCs_of_WPs Tryz.func17 rfl Tryz.ntmps17 rfl Tryz.results17 ?_
  refine WPs_seq ?_
  refine WPs_regionK [0, 3, 4] ?_
  refine s_box (cl := [_, _, _, _, _, _]) rfl rfl rfl (fun b3 => ?_)
  refine s_alloc Tryz.zeroValue44 (cl := [_, _]) rfl rfl (fun b4 => ?_)
  refine s_assign rfl rfl ?_
  refine SXs_nilK (fr' := [(0, _), (3, _), (4, _)]) rfl ?_
  refine KSs_wp ?_
  refine WPs_seq ?_
  refine WPs_block ?_
  refine WPs_seq ?_
  refine WPs_regionK [0, 3, 4, 10] ?_
  refine s_move rfl rfl ?_
  refine s_call Tryz.call28 rfl (vs := [_]) rfl (RCs.perm (by (repeat (first | exact List.Perm.refl _ | (apply pick 2; exact rfl)))) (seg_none)) ?_
  rintro v w ⟨rfl, hS⟩
  refine SXs_go hS ?_
  clear hS; clear w
  simp only [List.eraseIdx_cons_zero, List.eraseIdx_cons_succ, putF]
  refine s_assign rfl rfl ?_
  refine SXs_nilK (fr' := [(0, _), (3, _), (4, _), (10, _)]) rfl ?_
  refine KSs_wp ?_
  refine WPs_cond rfl (fun hc1 => ?_) (fun hc1 => ?_)
  · (exfalso; (cases hc1; done))
  · simp only [decide_eq_true_eq] at hc1
    refine WPs_seq ?_
    refine WPs_drawL [0, 3, 4, 14] [] Tryz.mixed rfl (listed := #[false, false, false, false, false, false, false, false, false, false, false, false, false, false]) rfl ?_
    refine st_take 0 rfl (by decide +kernel) (listed' := #[true, false, false, false, false, false, false, false, false, false, false, false, false, false]) rfl (by (intro _ h; (exact h))) (gv_loadN Tryz.isAgg46 Tryz.sizeOf46 (vs := [_, _, _, _, _, _]) rfl rfl (by exact csin (i := 2) (k := 6) rfl rfl) rfl) ?_
    refine st_one 1 rfl (by decide +kernel) ?_
    refine s_call Tryz.call23 rfl (vs := [_]) rfl (RCs.perm (by (repeat ((exact List.Perm.refl _)))) (recMay_ok (r := r) hK.cons.cons.cons.cons hV.cons.cons.cons.cons hok)) ?_
    rintro v w ⟨rfl, hS⟩
    refine SXs_go hS ?_
    clear hS; clear w
    simp only [putF]
    refine st_next (listed' := #[true, true, false, false, false, false, false, false, false, false, false, false, false, false]) rfl (by intro _ _; (intro _ h; (exact h))) ?_
    refine st_take 2 rfl (by decide +kernel) (listed' := #[true, true, true, false, false, false, false, false, false, false, false, false, false, false]) rfl (by (intro _ h; (exact h))) (gv_not rfl rfl) ?_
    refine st_take 3 rfl (by decide +kernel) (listed' := #[true, true, true, true, false, false, false, false, false, false, false, false, false, false]) rfl (by (intro _ h; (exact h))) (gv_move rfl rfl) ?_
    refine st_split (dj := 18) rfl (fun hc2 => ?_) (fun hc2 => ?_)
    · (exfalso; (cases hc2; done))
    · simp only [Bool.not_true] at hc2
      refine st_take_t 4 rfl (by decide +kernel) (listed' := #[true, true, true, true, true, false, false, false, false, false, false, false, false, false]) rfl (by (intro _ h; (exact h))) rfl rfl (by ((rfl))) (gv_fieldAddr fo_46_0 rfl rfl) ?_
      refine st_take_t 5 rfl (by decide +kernel) (listed' := #[true, true, true, true, true, true, false, false, false, false, false, false, false, false]) rfl (by (intro _ h; (exact h))) rfl rfl (by ((rfl))) (gv_load1 Tryz.isAgg36 rfl rfl (by exact cin (i := 2) rfl rfl)) ?_
      refine st_take_t 6 rfl (by decide +kernel) (listed' := #[true, true, true, true, true, true, true, false, false, false, false, false, false, false]) rfl (by (intro _ h; (exact h))) rfl rfl (by ((rfl))) (gv_move rfl rfl) ?_
      refine st_take_t 7 rfl (by decide +kernel) (listed' := #[true, true, true, true, true, true, true, true, false, false, false, false, false, false]) rfl (by (intro _ h; (exact h))) rfl rfl (by ((rfl))) (gv_nilCheck rfl rfl) ?_
      refine st_take_t 8 rfl (by decide +kernel) (listed' := #[true, true, true, true, true, true, true, true, true, false, false, false, false, false]) rfl (by (intro _ h; (exact h))) rfl rfl (by ((rfl))) (gv_fieldAddr fo_79_1 rfl rfl) ?_
      refine st_take_t 9 rfl (by decide +kernel) (listed' := #[true, true, true, true, true, true, true, true, true, true, false, false, false, false]) rfl (by (intro _ h; (exact h))) rfl rfl (by ((rfl))) (gv_fieldAddr fo_38_4 rfl rfl) ?_
      refine st_take_t 10 rfl (by decide +kernel) (listed' := #[true, true, true, true, true, true, true, true, true, true, true, false, false, false]) rfl (by (intro _ h; (exact h))) rfl rfl (by ((rfl))) (gv_load1 Tryz.isAgg36 rfl rfl (by exact cin (i := 0) rfl rfl)) ?_
      refine st_take_t 11 rfl (by decide +kernel) (listed' := #[true, true, true, true, true, true, true, true, true, true, true, true, false, false]) rfl (by (intro _ h; (exact h))) rfl rfl (by ((rfl))) (gv_leq rfl rfl rfl) ?_
      refine st_take 12 rfl (by decide +kernel) (listed' := #[true, true, true, true, true, true, true, true, true, true, true, true, true, false]) rfl (by (intro _ h; (exact h))) (gv_pick_f rfl rfl rfl) ?_
      refine st_take 13 rfl (by decide +kernel) (listed' := #[true, true, true, true, true, true, true, true, true, true, true, true, true, true]) rfl (by (intro _ h; (exact h))) (gv_assign rfl rfl) ?_
      refine st_doneK (fr' := [(0, _), (3, _), (4, _), (14, _)]) (by decide +kernel) rfl ?_
      refine KSs_wp ?_
      refine WPs_cond rfl (fun hc7 => ?_) (fun hc7 => ?_)
      · (exfalso; (simp only [decide_eq_true_eq] at hc7; omega))
      · simp only [decide_eq_false_iff_not] at hc7
        refine WPs_seq ?_
        refine WPs_drawL [0, 3, 4, 29] [] Tryz.mixed rfl (listed := #[false, false, false, false, false, false, false, false, false, false, false]) rfl ?_
        refine st_take 0 rfl (by decide +kernel) (listed' := #[true, false, false, false, false, false, false, false, false, false, false]) rfl (by (intro _ h; (exact h))) (gv_loadN Tryz.isAgg46 Tryz.sizeOf46 (vs := [_, _, _, _, _, _]) rfl rfl (by exact csin (i := 2) (k := 6) rfl rfl) rfl) ?_
        refine st_take 2 rfl (by decide +kernel) (listed' := #[true, false, true, false, false, false, false, false, false, false, false]) rfl (by (intro _ h; (exact h))) (gv_move rfl rfl) ?_
        refine st_take 3 rfl (by decide +kernel) (listed' := #[true, false, true, true, false, false, false, false, false, false, false]) rfl (by (intro _ h; (exact h))) (gv_nilCheck rfl rfl) ?_
        refine st_take 4 rfl (by decide +kernel) (listed' := #[true, false, true, true, true, false, false, false, false, false, false]) rfl (by (intro _ h; (exact h))) (gv_fieldAddr fo_79_1 rfl rfl) ?_
        refine st_take 5 rfl (by decide +kernel) (listed' := #[true, false, true, true, true, true, false, false, false, false, false]) rfl (by (intro _ h; (exact h))) (gv_fieldAddr fo_38_1 rfl rfl) ?_
        refine st_take 6 rfl (by decide +kernel) (listed' := #[true, false, true, true, true, true, true, false, false, false, false]) rfl (by (intro _ h; (exact h))) (gv_load1 Tryz.isAgg34 rfl rfl (by exact cin (i := 0) rfl rfl)) ?_
        refine st_take 7 rfl (by decide +kernel) (listed' := #[true, false, true, true, true, true, true, true, false, false, false]) rfl (by (intro _ h; (exact h))) (gv_conv_ok Tryz.underlying34 Tryz.underlying3 rfl rfl (inR_i64 (by omega) (by omega))) ?_
        refine st_take 8 rfl (by decide +kernel) (listed' := #[true, false, true, true, true, true, true, true, true, false, false]) rfl (by (intro _ h; (exact h))) (gv_sub_ok rfl rfl rfl (inR_i64 (by omega) (by omega))) ?_
        refine st_one 1 rfl (by decide +kernel) ?_
        refine s_call Tryz.call41 rfl (vs := [_]) rfl (RCs.perm (by (repeat ((exact List.Perm.refl _)))) (recSize_spec (r := r) (by omega) (by omega))) ?_
        rintro v w ⟨rfl, hS⟩
        refine SXs_go hS ?_
        clear hS; clear w
        simp only [putF]
        refine st_next (listed' := #[true, true, true, true, true, true, true, true, true, false, false]) rfl (by intro _ _; (intro _ h; (exact h))) ?_
        refine st_take 9 rfl (by decide +kernel) (listed' := #[true, true, true, true, true, true, true, true, true, true, false]) rfl (by (intro _ h; (exact h))) (gv_gtr rfl rfl rfl) ?_
        refine st_take 10 rfl (by decide +kernel) (listed' := #[true, true, true, true, true, true, true, true, true, true, true]) rfl (by (intro _ h; (exact h))) (gv_assign rfl rfl) ?_
        refine st_doneK (fr' := [(0, _), (3, _), (4, _), (29, _)]) (by decide +kernel) rfl ?_
        refine KSs_wp ?_
        refine WPs_cond rfl (fun hc8 => ?_) (fun hc8 => ?_)
        · (exfalso; (simp only [decide_eq_true_eq] at hc8; omega))
        · simp only [decide_eq_false_iff_not] at hc8
          refine WPs_skip ?_
          refine KSs_wp ?_
          refine WPs_seq ?_
          refine WPs_regionK [0, 3, 4, 6] ?_
          refine s_loadN Tryz.isAgg46 Tryz.sizeOf46 (vs := [_, _, _, _, _, _]) rfl rfl (by exact csin (i := 2) (k := 6) rfl rfl) rfl ?_
          refine s_call Tryz.call42 rfl (vs := [_]) rfl (RCs.perm (by (repeat ((exact List.Perm.refl _)))) (recPut_spec (r := r) (kind := kind) hH hSz hK.cons.cons.cons.cons hV.cons.cons.cons.cons hok hk)) ?_
          rintro v w ⟨_, rfl, v43, c43, rfl, hS⟩
          refine SXs_go hS ?_
          clear hS; clear w
          simp only [putF]
          refine s_move rfl rfl ?_
          refine s_extract rfl rfl rfl ?_
          refine s_extract rfl rfl rfl ?_
          refine s_assign rfl rfl ?_
          refine SXs_rdSub (ownB (.slice v43 (encOf kind r).length c43) (encOf kind r) :: segP x f id size many first last safe :: pt b3 (.cells [.int .u64 (r.seq : Int), .int .i64 r.kind, .slice ka r.key.length kc, .slice va r.value.length vc, .int .u32 (r.ps : Int), .int .u32 (r.po : Int)].toArray 46 (0, 0)) :: pt b4 (.cells [.int .u32 0, .int .u32 0].toArray 44 (0, 0)) :: F) 0 (fun w hw => hw.sl (by (repeat (first | exact Sl.refl _ | (apply Sl.pick 0; exact rfl) | (apply Sl.pick 1; exact rfl) | refine Sl.skip ?_)))) rfl (fun hRb => ?_)
          refine s_assign rfl rfl ?_
          refine SXs_nilK (fr' := [(0, _), (3, _), (4, _), (6, _)]) rfl ?_
          refine KSs_wp ?_
          refine WPs_seq ?_
          refine WPs_seq ?_
          refine WPs_drawL [0, 3, 4, 6, 8] [11, 12] Tryz.mixed rfl (listed := #[false, false, false, false, false, false, false, false, false, false, false, false, false]) rfl ?_
          refine st_take 0 rfl (by decide +kernel) (listed' := #[true, false, false, false, false, false, false, false, false, false, false, false, false]) rfl (by (intro _ h; (exact h))) (gv_move rfl rfl) ?_
          refine st_take 1 rfl (by decide +kernel) (listed' := #[true, true, false, false, false, false, false, false, false, false, false, false, false]) rfl (by (intro _ h; (exact h))) (gv_nilCheck rfl rfl) ?_
          refine st_take 2 rfl (by decide +kernel) (listed' := #[true, true, true, false, false, false, false, false, false, false, false, false, false]) rfl (by (intro _ h; (exact h))) (gv_fieldAddr fo_79_0 rfl rfl) ?_
          refine st_take 3 rfl (by decide +kernel) (listed' := #[true, true, true, true, false, false, false, false, false, false, false, false, false]) rfl (by (intro _ h; (exact h))) (gv_load1 Tryz.isAgg25 rfl rfl (by exact cin (i := 1) rfl rfl)) ?_
          refine st_take 4 rfl (by decide +kernel) (listed' := #[true, true, true, true, true, false, false, false, false, false, false, false, false]) rfl (by (intro _ h; (exact h))) (gv_move rfl rfl) ?_
          refine st_take 5 rfl (by decide +kernel) (listed' := #[true, true, true, true, true, true, false, false, false, false, false, false, false]) rfl (by (intro _ h; (exact h))) (gv_nilCheck rfl rfl) ?_
          refine st_take 6 rfl (by decide +kernel) (listed' := #[true, true, true, true, true, true, true, false, false, false, false, false, false]) rfl (by (intro _ h; (exact h))) (gv_fieldAddr fo_79_1 rfl rfl) ?_
          refine st_take 7 rfl (by decide +kernel) (listed' := #[true, true, true, true, true, true, true, true, false, false, false, false, false]) rfl (by (intro _ h; (exact h))) (gv_fieldAddr fo_38_0 rfl rfl) ?_
          refine st_take 8 rfl (by decide +kernel) (listed' := #[true, true, true, true, true, true, true, true, true, false, false, false, false]) rfl (by (intro _ h; (exact h))) (gv_load1 Tryz.isAgg34 rfl rfl (by exact cin (i := 1) rfl rfl)) ?_
          refine st_take 10 rfl (by decide +kernel) (listed' := #[true, true, true, true, true, true, true, true, true, false, true, false, false]) rfl (by (intro _ h; (exact h))) (gv_move rfl rfl) ?_
          refine st_one 9 rfl (by decide +kernel) ?_
          refine s_call Tryz.call12 rfl (vs := [_]) rfl (RCs.perm (by (repeat ((exact List.Perm.refl _)))) (hn _)) ?_
          rintro v w ⟨rfl, hS⟩
          refine SXs_go hS ?_
          clear hS; clear w
          simp only [putF]
          refine st_next (listed' := #[true, true, true, true, true, true, true, true, true, true, true, false, false]) rfl (by intro _ _; (intro _ h; (exact h))) ?_
          refine st_one 11 rfl (by decide +kernel) ?_
          refine s_call Tryz.call43 rfl (vs := [_, _, _]) rfl (RCs.perm (by (repeat (first | exact List.Perm.refl _ | (apply pick 0; exact rfl) | (apply pick 1; exact rfl) | (apply pick 4; exact rfl)))) (fs_append (F := (ownB (.slice v43 (encOf kind r).length c43) (encOf kind r) :: segP x f id size many first last safe :: pt b3 (.cells [.int .u64 (r.seq : Int), .int .i64 r.kind, .slice ka r.key.length kc, .slice va r.value.length vc, .int .u32 (r.ps : Int), .int .u32 (r.po : Int)].toArray 46 (0, 0)) :: pt b4 (.cells [.int .u32 0, .int .u32 0].toArray 44 (0, 0)) :: F)) (m := m) hm hRb (by omega) (by rw [hel]; exact hq) hq2 hds)) ?_
          rintro v w ⟨rfl, hS⟩
          refine SXs_go hS ?_
          clear hS; clear w
          simp only [putF]
          refine st_next (listed' := #[true, true, true, true, true, true, true, true, true, true, true, true, false]) rfl (by intro e; cases e) ?_
          refine st_one 12 rfl (by decide +kernel) ?_
          refine s_assign rfl rfl ?_
          refine st_next (listed' := #[true, true, true, true, true, true, true, true, true, true, true, true, true]) rfl (by intro e; cases e) ?_
          refine st_doneK (fr' := [(0, _), (3, _), (4, _), (6, _), (8, _)]) (by decide +kernel) rfl ?_
          refine KSs_wp ?_
          refine WPs_seq ?_
          refine WPs_regionK [0, 3, 4, 6, 8, 59] ?_
          refine s_move rfl rfl ?_
          refine s_neq rfl rfl rfl ?_
          refine SXs_nilK (fr' := [(0, _), (3, _), (4, _), (6, _), (8, _), (59, _)]) rfl ?_
          refine KSs_wp ?_
          refine WPs_cond rfl (fun hc9 => ?_) (fun hc9 => ?_)
          · (exfalso; (cases hc9; done))
          · simp only [decide_eq_true_eq, Bool.not_eq_false'] at hc9
            refine WPs_skip ?_
            refine KSs_wp ?_
            refine WPs_seq ?_
            refine WPs_drawL [0, 3, 4, 6, 9] [12] Tryz.mixed rfl (listed := #[false, false, false, false, false, false, false, false, false, false, false, false, false]) rfl ?_
            refine st_take 0 rfl (by decide +kernel) (listed' := #[true, false, false, false, false, false, false, false, false, false, false, false, false]) rfl (by (intro _ h; (exact h))) (gv_move rfl rfl) ?_
            refine st_take 1 rfl (by decide +kernel) (listed' := #[true, true, false, false, false, false, false, false, false, false, false, false, false]) rfl (by (intro _ h; (exact h))) (gv_nilCheck rfl rfl) ?_
            refine st_take 2 rfl (by decide +kernel) (listed' := #[true, true, true, false, false, false, false, false, false, false, false, false, false]) rfl (by (intro _ h; (exact h))) (gv_fieldAddr fo_79_1 rfl rfl) ?_
            refine st_take 3 rfl (by decide +kernel) (listed' := #[true, true, true, true, false, false, false, false, false, false, false, false, false]) rfl (by (intro _ h; (exact h))) (gv_fieldAddr fo_38_0 rfl rfl) ?_
            refine st_take 4 rfl (by decide +kernel) (listed' := #[true, true, true, true, true, false, false, false, false, false, false, false, false]) rfl (by (intro _ h; (exact h))) (gv_load1 Tryz.isAgg34 rfl rfl (by exact cin (i := 2) rfl rfl)) ?_
            refine st_take 5 rfl (by decide +kernel) (listed' := #[true, true, true, true, true, true, false, false, false, false, false, false, false]) rfl (by (intro _ h; (exact h))) (gv_move rfl rfl) ?_
            refine st_take 6 rfl (by decide +kernel) (listed' := #[true, true, true, true, true, true, true, false, false, false, false, false, false]) rfl (by (intro _ h; (exact h))) (gv_nilCheck rfl rfl) ?_
            refine st_take 7 rfl (by decide +kernel) (listed' := #[true, true, true, true, true, true, true, true, false, false, false, false, false]) rfl (by (intro _ h; (exact h))) (gv_fieldAddr fo_79_1 rfl rfl) ?_
            refine st_take 8 rfl (by decide +kernel) (listed' := #[true, true, true, true, true, true, true, true, true, false, false, false, false]) rfl (by (intro _ h; (exact h))) (gv_fieldAddr fo_38_1 rfl rfl) ?_
            refine st_take 9 rfl (by decide +kernel) (listed' := #[true, true, true, true, true, true, true, true, true, true, false, false, false]) rfl (by (intro _ h; (exact h))) (gv_load1 Tryz.isAgg34 rfl rfl (by exact cin (i := 2) rfl rfl)) ?_
            refine st_take 10 rfl (by decide +kernel) (listed' := #[true, true, true, true, true, true, true, true, true, true, true, false, false]) rfl (by (intro _ h; (exact h))) (gv_build (vs := [(0, _), (1, _)]) (cs := [_, _]) rfl rfl (build_44_0_1 rfl rfl)) ?_
            refine st_one 11 rfl (by decide +kernel) ?_
            refine s_alloc Tryz.zeroValue44 (cl := [_, _]) rfl rfl (fun b9 => ?_)
            refine st_next (listed' := #[true, true, true, true, true, true, true, true, true, true, true, true, false]) rfl (by intro _ _; (intro _ h; (exact h.tail))) ?_
            refine st_one 12 rfl (by decide +kernel) ?_
            refine s_store (i := 0) Tryz.sizeOf44 rfl rfl rfl (vs := [_, _]) rfl rfl rfl rfl ?_
            simp only [List.set_cons_zero, List.set_cons_succ, spl]
            refine st_next (listed' := #[true, true, true, true, true, true, true, true, true, true, true, true, true]) rfl (by intro e; cases e) ?_
            refine st_doneK (fr' := [(0, _), (3, _), (4, _), (6, _), (9, _)]) (by decide +kernel) rfl ?_
            refine KSs_wp ?_
            refine WPs_seq ?_
            refine WPs_regionK [0, 3, 4, 9] ?_
            refine s_move rfl rfl ?_
            refine s_nilCheck rfl rfl ?_
            refine s_fieldAddr fo_79_1 rfl rfl ?_
            refine s_fieldAddr fo_38_1 rfl rfl ?_
            refine s_load1 Tryz.isAgg34 rfl rfl (by exact cin (i := 3) rfl rfl) ?_
            refine s_move rfl rfl ?_
            refine s_len rfl Tryz.underlying42 rfl rfl ?_
            refine s_conv_ok Tryz.underlying3 Tryz.underlying34 rfl rfl (inR_u32 (by omega) (by omega)) ?_
            refine s_add_ok rfl rfl rfl (inR_u32 (by omega) (by omega)) ?_
            refine s_nilCheck rfl rfl ?_
            refine s_fieldAddr fo_79_1 rfl rfl ?_
            refine s_fieldAddr fo_38_1 rfl rfl ?_
            refine s_store (i := 3) Tryz.sizeOf34 rfl rfl rfl (vs := [_]) rfl rfl rfl rfl ?_
            simp only [List.set_cons_zero, List.set_cons_succ, spl]
            refine SXs_nilK (fr' := [(0, _), (3, _), (4, _), (9, _)]) rfl ?_
            refine KSs_wp ?_
            refine WPs_seq ?_
            refine WPs_regionK [0, 3, 4, 9] ?_
            refine s_move rfl rfl ?_
            refine s_nilCheck rfl rfl ?_
            refine s_fieldAddr fo_79_1 rfl rfl ?_
            refine s_fieldAddr fo_38_2 rfl rfl ?_
            refine s_load1 Tryz.isAgg34 rfl rfl (by exact cin (i := 3) rfl rfl) ?_
            refine s_add_ok rfl rfl rfl (inR_u32 (by omega) (by omega)) ?_
            refine s_nilCheck rfl rfl ?_
            refine s_fieldAddr fo_79_1 rfl rfl ?_
            refine s_fieldAddr fo_38_2 rfl rfl ?_
            refine s_store (i := 3) Tryz.sizeOf34 rfl rfl rfl (vs := [_]) rfl rfl rfl rfl ?_
            simp only [List.set_cons_zero, List.set_cons_succ, spl]
            refine SXs_nilK (fr' := [(0, _), (3, _), (4, _), (9, _)]) rfl ?_
            refine KSs_wp ?_
            refine WPs_seq ?_
            refine WPs_regionK [0, 3, 4, 9] ?_
            refine s_move rfl rfl ?_
            refine s_fieldAddr fo_46_0 rfl rfl ?_
            refine s_load1 Tryz.isAgg36 rfl rfl (by exact cin (i := 4) rfl rfl) ?_
            refine s_nilCheck rfl rfl ?_
            refine s_fieldAddr fo_79_1 rfl rfl ?_
            refine s_fieldAddr fo_38_4 rfl rfl ?_
            refine s_store (i := 3) Tryz.sizeOf36 rfl rfl rfl (vs := [_]) rfl rfl rfl rfl ?_
            simp only [List.set_cons_zero, List.set_cons_succ, spl]
            refine SXs_nilK (fr' := [(0, _), (3, _), (4, _), (9, _)]) rfl ?_
            refine KSs_wp ?_
            refine WPs_seq ?_
            refine WPs_seq ?_
            refine WPs_regionK [0, 3, 4, 9, 105] ?_
            refine s_move rfl rfl ?_
            refine s_nilCheck rfl rfl ?_
            refine s_fieldAddr fo_79_1 rfl rfl ?_
            refine s_fieldAddr fo_38_2 rfl rfl ?_
            refine s_load1 Tryz.isAgg34 rfl rfl (by exact cin (i := 3) rfl rfl) ?_
            refine s_eql rfl rfl rfl ?_
            refine SXs_nilK (fr' := [(0, _), (3, _), (4, _), (9, _), (105, _)]) rfl ?_
            refine KSs_wp ?_
            refine WPs_cond rfl (fun hc10 => ?_) (fun hc10 => ?_)
            · simp only [decide_eq_true_eq] at hc10
              refine WPs_regionK [4, 9] ?_
              refine s_move rfl rfl ?_
              refine s_fieldAddr fo_46_0 rfl rfl ?_
              refine s_load1 Tryz.isAgg36 rfl rfl (by exact cin (i := 4) rfl rfl) ?_
              refine s_nilCheck rfl rfl ?_
              refine s_fieldAddr fo_79_1 rfl rfl ?_
              refine s_fieldAddr fo_38_3 rfl rfl ?_
              refine s_store (i := 3) Tryz.sizeOf36 rfl rfl rfl (vs := [_]) rfl rfl rfl rfl ?_
              simp only [List.set_cons_zero, List.set_cons_succ, spl]
              refine SXs_nilK (fr' := [(4, _), (9, _)]) rfl ?_
              refine KSs_wp ?_
              refine WPs_seq ?_
              refine WPs_regionK [4, 5] ?_
              refine s_loadN Tryz.isAgg44 Tryz.sizeOf44 (vs := [_, _]) rfl rfl (by exact csin (i := 0) (k := 2) rfl rfl) rfl ?_
              refine s_store (i := 5) Tryz.sizeOf44 rfl rfl rfl (vs := [_, _]) rfl rfl rfl rfl ?_
              simp only [List.set_cons_zero, List.set_cons_succ, spl]
              refine s_assign rfl rfl ?_
              refine SXs_nilK (fr' := [(4, _), (5, _)]) rfl ?_
              refine KSs_wp ?_
              refine WPs_ret ?_
              refine RLs_start ?_
              refine RLs_cellN Tryz.isAgg44 Tryz.sizeOf44 (cs := [_, _]) rfl (by exact csin (i := 5) (k := 2) rfl rfl) rfl ?_
              refine RLs_tmp rfl ?_
              refine RLs_fin2 ?_
              exact fun w hS => ⟨rfl, by
                  have e1 : ((size : Int) + ((encOf kind r).length : Int)) = ((size + (25 + r.key.length + r.value.length) : Nat) : Int) := by rw [hel]; omega
                  have e2 : ((many : Int) + 1) = ((many + 1 : Nat) : Int) := by omega
                  rw [e1, e2] at hS
                  first
                    | (rw [show (if many = 0 then r.seq else first) = r.seq from if_pos (by omega)]; exact hS.sl (by (repeat (first | exact Sl.refl _ | (apply Sl.pick 0; exact rfl) | (apply Sl.pick 1; exact rfl) | (apply Sl.pick 2; exact rfl) | (apply Sl.pick 3; exact rfl) | (apply Sl.pick 4; exact rfl) | (apply Sl.pick 5; exact rfl) | (apply Sl.pick 6; exact rfl) | (apply Sl.pick 7; exact rfl) | (apply Sl.pick 8; exact rfl) | (apply Sl.pick 9; exact rfl) | (apply Sl.pick 10; exact rfl) | (apply Sl.pick 11; exact rfl) | (apply Sl.pick 12; exact rfl) | (apply Sl.pick 13; exact rfl) | refine Sl.skip ?_))))
                    | (rw [show (if many = 0 then r.seq else first) = first from if_neg (by omega)]; exact hS.sl (by (repeat (first | exact Sl.refl _ | (apply Sl.pick 0; exact rfl) | (apply Sl.pick 1; exact rfl) | (apply Sl.pick 2; exact rfl) | (apply Sl.pick 3; exact rfl) | (apply Sl.pick 4; exact rfl) | (apply Sl.pick 5; exact rfl) | (apply Sl.pick 6; exact rfl) | (apply Sl.pick 7; exact rfl) | (apply Sl.pick 8; exact rfl) | (apply Sl.pick 9; exact rfl) | (apply Sl.pick 10; exact rfl) | (apply Sl.pick 11; exact rfl) | (apply Sl.pick 12; exact rfl) | (apply Sl.pick 13; exact rfl) | refine Sl.skip ?_))))⟩
            · simp only [decide_eq_false_iff_not] at hc10
              refine WPs_skip ?_
              refine KSs_wp ?_
              refine WPs_seq ?_
              refine WPs_regionK [4, 5] ?_
              refine s_loadN Tryz.isAgg44 Tryz.sizeOf44 (vs := [_, _]) rfl rfl (by exact csin (i := 0) (k := 2) rfl rfl) rfl ?_
              refine s_store (i := 5) Tryz.sizeOf44 rfl rfl rfl (vs := [_, _]) rfl rfl rfl rfl ?_
              simp only [List.set_cons_zero, List.set_cons_succ, spl]
              refine s_assign rfl rfl ?_
              refine SXs_nilK (fr' := [(4, _), (5, _)]) rfl ?_
              refine KSs_wp ?_
              refine WPs_ret ?_
              refine RLs_start ?_
              refine RLs_cellN Tryz.isAgg44 Tryz.sizeOf44 (cs := [_, _]) rfl (by exact csin (i := 5) (k := 2) rfl rfl) rfl ?_
              refine RLs_tmp rfl ?_
              refine RLs_fin2 ?_
              exact fun w hS => ⟨rfl, by
                  have e1 : ((size : Int) + ((encOf kind r).length : Int)) = ((size + (25 + r.key.length + r.value.length) : Nat) : Int) := by rw [hel]; omega
                  have e2 : ((many : Int) + 1) = ((many + 1 : Nat) : Int) := by omega
                  rw [e1, e2] at hS
                  first
                    | (rw [show (if many = 0 then r.seq else first) = r.seq from if_pos (by omega)]; exact hS.sl (by (repeat (first | exact Sl.refl _ | (apply Sl.pick 0; exact rfl) | (apply Sl.pick 1; exact rfl) | (apply Sl.pick 2; exact rfl) | (apply Sl.pick 3; exact rfl) | (apply Sl.pick 4; exact rfl) | (apply Sl.pick 5; exact rfl) | (apply Sl.pick 6; exact rfl) | (apply Sl.pick 7; exact rfl) | (apply Sl.pick 8; exact rfl) | (apply Sl.pick 9; exact rfl) | (apply Sl.pick 10; exact rfl) | (apply Sl.pick 11; exact rfl) | (apply Sl.pick 12; exact rfl) | (apply Sl.pick 13; exact rfl) | refine Sl.skip ?_))))
                    | (rw [show (if many = 0 then r.seq else first) = first from if_neg (by omega)]; exact hS.sl (by (repeat (first | exact Sl.refl _ | (apply Sl.pick 0; exact rfl) | (apply Sl.pick 1; exact rfl) | (apply Sl.pick 2; exact rfl) | (apply Sl.pick 3; exact rfl) | (apply Sl.pick 4; exact rfl) | (apply Sl.pick 5; exact rfl) | (apply Sl.pick 6; exact rfl) | (apply Sl.pick 7; exact rfl) | (apply Sl.pick 8; exact rfl) | (apply Sl.pick 9; exact rfl) | (apply Sl.pick 10; exact rfl) | (apply Sl.pick 11; exact rfl) | (apply Sl.pick 12; exact rfl) | (apply Sl.pick 13; exact rfl) | refine Sl.skip ?_))))⟩
end Go.Proofs.YthodbnmeggkkoaaGreatDoor
/-
  Package record: Get at a head that is right.
-/
namespace Go.Proofs.YthodbnmeggkkoaaGreatDoor
open Go Go.RowKit Go.Hb Go.Proofs

theorem recOk_bounds {r : RecM} {kind : Nat} (hok : recOk r) (hk : r.kind = (kind : Int)) : kind < 256 ∧ r.key.length < 256 ∧ r.value.length < 65536 ∧ r.seq < 2 ^ 48 ∧ r.ps < 2 ^ 24 ∧ r.po < 2 ^ 32 ∧ 1 ≤ r.key.length ∧ r.key.length ≤ 64 ∧ r.value.length ≤ 1024 := by
  unfold recOk locOk at hok
  refine ⟨by omega, by omega, by omega, by omega, by omega, by omega, by omega, by omega, by omega⟩

theorem told_rec {g : World} {F : List HP} {v : Value} {kind : Nat} {r : RecM} {t : List UInt8} (hS : SizesG g) (hR : RdB g F v (hdOf kind r ++ t)) (hok : recOk r) (hk : r.kind = (kind : Int)) (hl : 21 ≤ (hdOf kind r ++ t).length) :
    RCs Tryz.prog 85 [v] g F (fun u w => u = .tuple #[.agg [.int .u64 (r.seq : Int), .int .i64 r.kind, .slice none 0 0, .slice none 0 0, .int .u32 (r.ps : Int), .int .u32 (r.po : Int)].toArray,
      .int .i64 (r.key.length : Int), .int .i64 (r.value.length : Int)] ∧ St g w F) := by
  obtain ⟨b1, b2, b3, b4, b5, b6, _⟩ := recOk_bounds hok hk
  obtain ⟨e1, e2, e3, e4, e5, e6⟩ := told_hd (kind := kind) (r := r) (t := t) b1 b2 b3 b4 b5 b6
  have h := told_spec hS hR hl
  rw [e1, e2, e3, e4, e5, e6] at h
  rw [hk]
  exact h

theorem recMay_len {g : World} {F : List HP} {r : RecM} {kb vb : List UInt8} {ka va : Option Addr} {kc vc : Nat} (h1 : kb.length = r.key.length) (h2 : vb.length = r.value.length) (hK : RdB g F (.slice ka kb.length kc) kb) (hV : RdB g F (.slice va vb.length vc) vb) (hok : recOk r) :
    RCs Tryz.prog 23 [.agg [.int .u64 (r.seq : Int), .int .i64 r.kind, .slice ka r.key.length kc, .slice va r.value.length vc, .int .u32 (r.ps : Int), .int .u32 (r.po : Int)].toArray] g F (fun u w => u = .bool true ∧ St g w F) := by
  have h := recMay_ok (r := { r with key := kb, value := vb }) hK hV (by
    unfold recOk at hok ⊢
    simp only [h1, h2]
    exact hok)
  simp only [h1, h2] at h
  exact h

theorem rdz {g : World} {L : List HP} {a : Option Addr} {m c : Nat} (h : RdIn g L (.slice a m c) 1 m (List.replicate m (.int .u8 0))) : RdB g L (.slice a (List.replicate m (0 : UInt8)).length c) (List.replicate m (0 : UInt8)) := by
  have e : bv (List.replicate m (0 : UInt8)) = List.replicate m (.int .u8 0) := by simp [bv]
  unfold RdB
  rw [e, List.length_replicate]
  exact h

theorem cp_bytes {xs : List UInt8} {l m : Nat} : ((((bv xs).drop (l * 1)).take ((xs.length - l) * 1)).take m) = bv ((xs.drop l).take m) := by
  rw [Nat.mul_one, Nat.mul_one, bv_drop, bv_take, bv_take, ← List.length_drop, List.take_length]

set_option maxHeartbeats 4000000 in
/-- The head is right, and so is all of it. -/
theorem get_ok {g : World} {F : List HP} {v : Value} {xs t : List UInt8} {kind : Nat} {r : RecM} (hH : HalfG g) (hSz : SizesG g) (hR : RdB g F v xs) (hx : xs = cov (hdOf kind r) ++ t) (hok : recOk r) (hk : r.kind = (kind : Int))
    (hl : 25 + r.key.length + r.value.length ≤ xs.length) (hr : rightP (xs.take (25 + r.key.length + r.value.length))) :
    RCs Tryz.prog 36 [v] g F (fun u w => ∃ ka kc va vc, u = .tuple #[.agg [.int .u64 (r.seq : Int), .int .i64 r.kind, .slice ka r.key.length kc, .slice va r.value.length vc, .int .u32 (r.ps : Int), .int .u32 (r.po : Int)].toArray, .int .i64 ((25 + r.key.length + r.value.length : Nat) : Int), .int .i64 0] ∧
      St g w (own 5 1 (.slice ka r.key.length kc) r.key.length (bv ((xs.drop 21).take r.key.length)) :: own 5 1 (.slice va r.value.length vc) r.value.length (bv ((xs.drop (21 + r.key.length)).take r.value.length)) :: F)) := by
  obtain ⟨b1, b2, b3, b4, b5, b6, b7, b8, b9⟩ := recOk_bounds hok hk
  have hmx := hR.2.1
  simp only [maxLen] at hmx
  have hh : (hdOf kind r).length = 17 := by simp [hdOf, le_length]
  have h21 : xs.take 21 = cov (hdOf kind r) := by
    rw [hx, List.take_left' (by rw [cov_length, hh])]
  have hR1 : RdB g F v (hdOf kind r ++ (le (crc (hdOf kind r)) 4 ++ t)) := by
    have e : xs = hdOf kind r ++ (le (crc (hdOf kind r)) 4 ++ t) := by rw [hx]; simp [cov]
    rw [← e]; exact hR
  have hl1 : (hdOf kind r ++ (le (crc (hdOf kind r)) 4 ++ t)).length = xs.length := by rw [hx]; simp [cov]
  have hxl : xs.length = 21 + t.length := by rw [hx]; simp [cov_length, hh]
  clear hx
  refine RCs_of_WPs Tryz.func36 rfl Tryz.ntmps36 rfl Tryz.results36 ?_
  refine WPs_seq ?_
  refine WPs_regionK [0, 2] ?_
  refine s_alloc Tryz.zeroValue46 (cl := [_, _, _, _, _, _]) rfl rfl (fun b2 => ?_)
  refine s_assign rfl rfl ?_
  refine s_assign rfl rfl ?_
  refine SXs_nilK (fr' := [(0, _), (2, _)]) rfl ?_
  refine KSs_wp ?_
  refine WPs_seq ?_
  refine WPs_regionK [0, 2, 5] ?_
  refine s_assign rfl rfl ?_
  refine SXs_nilK (fr' := [(0, _), (2, _), (5, _)]) rfl ?_
  refine KSs_wp ?_
  refine WPs_seq ?_
  refine WPs_block ?_
  refine WPs_seq ?_
  refine WPs_regionK [0, 2, 5, 10] ?_
  refine s_move rfl rfl ?_
  refine s_lenRd rfl Tryz.underlying42 rfl rfl (by ((apply RdIn.cons; assumption))) ?_
  refine s_lss rfl rfl rfl ?_
  refine s_assign rfl rfl ?_
  refine SXs_nilK (fr' := [(0, _), (2, _), (5, _), (10, _)]) rfl ?_
  refine KSs_wp ?_
  refine WPs_cond rfl (fun hc1 => ?_) (fun hc1 => ?_)
  · (exfalso; (cases hc1; done))
  · simp only [decide_eq_false_iff_not] at hc1
    refine WPs_seq ?_
    refine WPs_regionK [0, 2, 5, 19] ?_
    refine s_move rfl rfl ?_
    refine s_sliceRdF F slt_42 (l := 0) (h' := 21) (vlo := none) (vhi := some _) rfl rfl hR trivial rfl (.inr ⟨rfl, rfl⟩) (.inl rfl) (by omega) (by omega) (fun va21 vc21 hR21 => ?_)
    have hRt := rd_take (n := 0) (by omega) hR21
    refine s_call Tryz.call84 rfl (vs := [_]) rfl (RCs.perm (by (repeat ((exact List.Perm.refl _)))) (right_yes (xs := xs.take 21) hH hRt.cons (by simp; omega) (by rw [h21]; exact cov_right _))) ?_
    rintro v w ⟨rfl, hS⟩
    refine SXs_go hS ?_
    clear hS; clear w
    simp only [putF]
    refine s_not rfl rfl ?_
    refine s_assign rfl rfl ?_
    refine SXs_nilK (fr' := [(0, _), (2, _), (5, _), (19, _)]) rfl ?_
    refine KSs_wp ?_
    refine WPs_cond rfl (fun hc2 => ?_) (fun hc2 => ?_)
    · (exfalso; (cases hc2; done))
    · simp only [Bool.not_true] at hc2
      refine WPs_skip ?_
      refine KSs_wp ?_
      refine WPs_seq ?_
      refine WPs_regionK [0, 2, 5, 6, 7, 8] ?_
      refine s_move rfl rfl ?_
      refine s_call Tryz.call85 rfl (vs := [_]) rfl (RCs.perm (by (repeat ((exact List.Perm.refl _)))) (told_rec hSz hR1.cons hok hk (by rw [hl1]; omega))) ?_
      rintro v w ⟨rfl, hS⟩
      refine SXs_go hS ?_
      clear hS; clear w
      simp only [putF]
      refine s_move rfl rfl ?_
      refine s_extract rfl rfl rfl ?_
      refine s_extract rfl rfl rfl ?_
      refine s_extract rfl rfl rfl ?_
      refine s_alloc Tryz.zeroValue46 (cl := [_, _, _, _, _, _]) rfl rfl (fun b6 => ?_)
      refine s_store (i := 0) Tryz.sizeOf46 rfl rfl rfl (vs := [_, _, _, _, _, _]) rfl rfl rfl rfl ?_
      simp only [List.set_cons_zero, List.set_cons_succ, spl]
      refine s_assign rfl rfl ?_
      refine s_assign rfl rfl ?_
      refine SXs_nilK (fr' := [(0, _), (2, _), (5, _), (6, _), (7, _), (8, _)]) rfl ?_
      refine KSs_wp ?_
      refine WPs_seq ?_
      refine WPs_draw [0, 2, 5, 6, 7] (List.contains [7]) (F) Tryz.mixed rfl (listed := #[false, false, false, false, false, false, false, false]) rfl ?_
      refine st_take 0 rfl (by decide +kernel) (listed' := #[true, false, false, false, false, false, false, false]) rfl (by (intro _ h; (exact h.tail.tail))) (gv_move rfl rfl) ?_
      refine st_take 2 rfl (by decide +kernel) (listed' := #[true, false, true, false, false, false, false, false]) rfl (by (intro _ h; (exact h.tail.tail))) (gv_move rfl rfl) ?_
      refine st_two 1 3 rfl rfl (by decide +kernel) ?_ ?_
      ·
        refine s_makeSlice slt_42 rfl rfl rfl rfl (by ((simp only [maxLen]; omega))) (by ((omega))) (fun va36 vc36 => ?_)
        refine st_next (listed' := #[true, true, true, false, false, false, false, false]) rfl (by intro _ _; (intro _ h; (exact h.tail.tail.tail))) ?_
        refine st_take 4 rfl (by decide +kernel) (listed' := #[true, true, true, false, true, false, false, false]) rfl (by (intro _ h; (exact h.tail.tail.tail))) (gv_fieldAddr fo_46_2 rfl rfl) ?_
        refine st_two 3 5 rfl rfl (by decide +kernel) ?_ ?_
        ·
          refine s_makeSlice slt_42 rfl rfl rfl rfl (by ((simp only [maxLen]; omega))) (by ((omega))) (fun va38 vc38 => ?_)
          refine st_next (listed' := #[true, true, true, true, true, false, false, false]) rfl (by intro _ _; (intro _ h; (exact h.sl (by (repeat (first | exact Sl.refl _ | refine Sl.skip ?_)))))) ?_
          refine st_one 5 rfl (by decide +kernel) ?_
          refine s_store (i := 2) Tryz.sizeOf42 rfl rfl rfl (vs := [_]) rfl rfl rfl rfl ?_
          simp only [List.set_cons_zero, List.set_cons_succ, spl]
          refine st_next (listed' := #[true, true, true, true, true, true, false, false]) rfl (by intro _ _; (intro _ h; (exact h.sl (by (repeat (first | exact Sl.refl _ | refine Sl.skip ?_)))))) ?_
          refine st_take 6 rfl (by decide +kernel) (listed' := #[true, true, true, true, true, true, true, false]) rfl (by (intro _ h; (exact h.sl (by (repeat (first | exact Sl.refl _ | refine Sl.skip ?_)))))) (gv_fieldAddr fo_46_3 rfl rfl) ?_
          refine st_one 7 rfl (by decide +kernel) ?_
          refine s_store (i := 2) Tryz.sizeOf42 rfl rfl rfl (vs := [_]) rfl rfl rfl rfl ?_
          simp only [List.set_cons_zero, List.set_cons_succ, spl]
          refine st_next (listed' := #[true, true, true, true, true, true, true, true]) rfl (by intro e; cases e) ?_
          refine st_doneK (fr' := [(0, _), (2, _), (5, _), (6, _), (7, _)]) (by decide +kernel) rfl ?_
          refine KSs_wp ?_
          refine WPs_seq ?_
          refine WPs_seq ?_
          refine WPs_regionK [0, 2, 5, 6, 7, 43] ?_
          refine SXs_rd (T := 5) 0 rfl (fun hRa => ?_)
          refine SXs_rd (T := 5) 1 rfl (fun hRb => ?_)
          refine s_loadN Tryz.isAgg46 Tryz.sizeOf46 (vs := [_, _, _, _, _, _]) rfl rfl (by exact csin (i := 2) (k := 6) rfl rfl) rfl ?_
          refine s_call Tryz.call23 rfl (vs := [_]) rfl (RCs.perm (by (repeat ((exact List.Perm.refl _)))) (recMay_len (r := r) (kb := List.replicate r.key.length 0) (vb := List.replicate r.value.length 0) (by simp) (by simp) (by (exact rdz hRb)) (by (exact rdz hRa)) hok)) ?_
          rintro v w ⟨rfl, hS⟩
          refine SXs_go hS ?_
          clear hS; clear w
          simp only [putF]
          refine s_not rfl rfl ?_
          refine SXs_nilK (fr' := [(0, _), (2, _), (5, _), (6, _), (7, _), (43, _)]) rfl ?_
          refine KSs_wp ?_
          refine WPs_cond rfl (fun hc3 => ?_) (fun hc3 => ?_)
          · (exfalso; (cases hc3; done))
          · simp only [Bool.not_true] at hc3
            refine WPs_skip ?_
            refine KSs_wp ?_
            refine WPs_seq ?_
            refine WPs_regionK [0, 2, 5, 6, 7, 9] ?_
            refine s_loadN Tryz.isAgg46 Tryz.sizeOf46 (vs := [_, _, _, _, _, _]) rfl rfl (by exact csin (i := 2) (k := 6) rfl rfl) rfl ?_
            refine s_call Tryz.call41 rfl (vs := [_]) rfl (RCs.perm (by (repeat ((exact List.Perm.refl _)))) (recSize_spec (r := r) (by omega) (by omega))) ?_
            rintro v w ⟨rfl, hS⟩
            refine SXs_go hS ?_
            clear hS; clear w
            simp only [putF]
            refine s_assign rfl rfl ?_
            refine SXs_nilK (fr' := [(0, _), (2, _), (5, _), (6, _), (7, _), (9, _)]) rfl ?_
            refine KSs_wp ?_
            refine WPs_seq ?_
            refine WPs_block ?_
            refine WPs_seq ?_
            refine WPs_regionK [0, 2, 5, 6, 7, 9, 51] ?_
            refine s_move rfl rfl ?_
            refine s_lenRd rfl Tryz.underlying42 rfl rfl (by ((apply RdIn.cons; apply RdIn.cons; apply RdIn.cons; apply RdIn.cons; assumption))) ?_
            refine s_move rfl rfl ?_
            refine s_lss rfl rfl rfl ?_
            refine s_assign rfl rfl ?_
            refine SXs_nilK (fr' := [(0, _), (2, _), (5, _), (6, _), (7, _), (9, _), (51, _)]) rfl ?_
            refine KSs_wp ?_
            refine WPs_cond rfl (fun hc4 => ?_) (fun hc4 => ?_)
            · (exfalso; (simp only [decide_eq_true_eq] at hc4; omega))
            · simp only [decide_eq_false_iff_not] at hc4
              refine WPs_seq ?_
              refine WPs_regionK [0, 2, 5, 6, 7, 9, 61] ?_
              refine s_move rfl rfl ?_
              refine s_move rfl rfl ?_
              refine s_sliceRdF F slt_42 (l := 0) (h' := 25 + r.key.length + r.value.length) (vlo := none) (vhi := some _) rfl rfl hR trivial rfl (.inr ⟨rfl, rfl⟩) (.inl rfl) (by omega) (by omega) (fun va64 vc64 hR64 => ?_)
              have hRt2 := rd_take (n := 0) hl hR64
              refine s_call Tryz.call84 rfl (vs := [_]) rfl (RCs.perm (by (repeat ((exact List.Perm.refl _)))) (right_yes (xs := xs.take (25 + r.key.length + r.value.length)) hH hRt2.cons.cons.cons.cons (by rw [List.length_take]; omega) hr)) ?_
              rintro v w ⟨rfl, hS⟩
              refine SXs_go hS ?_
              clear hS; clear w
              simp only [putF]
              refine s_not rfl rfl ?_
              refine s_assign rfl rfl ?_
              refine SXs_nilK (fr' := [(0, _), (2, _), (5, _), (6, _), (7, _), (9, _), (61, _)]) rfl ?_
              refine KSs_wp ?_
              refine WPs_cond rfl (fun hc5 => ?_) (fun hc5 => ?_)
              · (exfalso; (cases hc5; done))
              · simp only [Bool.not_true] at hc5
                refine WPs_skip ?_
                refine KSs_wp ?_
                refine WPs_seq ?_
                refine WPs_drawL [0, 2, 6, 7, 9] [4] Tryz.mixed rfl (listed := #[false, false, false, false, false]) rfl ?_
                refine st_take 0 rfl (by decide +kernel) (listed' := #[true, false, false, false, false]) rfl (by (intro _ h; (exact h))) (gv_fieldAddr fo_46_2 rfl rfl) ?_
                refine st_take 1 rfl (by decide +kernel) (listed' := #[true, true, false, false, false]) rfl (by (intro _ h; (exact h))) (gv_load1 Tryz.isAgg42 rfl rfl (by exact cin (i := 2) rfl rfl)) ?_
                refine st_take 2 rfl (by decide +kernel) (listed' := #[true, true, true, false, false]) rfl (by (intro _ h; (exact h))) (gv_move rfl rfl) ?_
                refine ex_sliceRd 3 rfl slt_42 (l := 21) (vlo := some _) (vhi := none) rfl rfl hR.cons.cons.cons.cons rfl trivial (.inl rfl) (.inr ⟨rfl, rfl⟩) (by omega) (by omega) (fun va76 vc76 hR76 hG15_3 => ?_)
                refine st_take 3 rfl (by decide +kernel) (listed' := #[true, true, true, true, false]) rfl (by (intro _ h; (exact h))) hG15_3 ?_
                refine st_one 4 rfl (by decide +kernel) ?_
                refine s_copyFull (k2 := 1) (i := 1) slt_42 rfl rfl rfl rfl (by ((assumption))) (by exact all_td (bv_one _)) rfl (by omega) ?_
                simp only [List.set_cons_zero, List.set_cons_succ, putF]
                refine st_next (listed' := #[true, true, true, true, true]) rfl (by intro e; cases e) ?_
                refine st_doneK (fr' := [(0, _), (2, _), (6, _), (7, _), (9, _)]) (by decide +kernel) rfl ?_
                refine KSs_wp ?_
                refine WPs_seq ?_
                refine WPs_drawL [2, 6, 9] [6] Tryz.mixed rfl (listed := #[false, false, false, false, false, false, false]) rfl ?_
                refine st_take 0 rfl (by decide +kernel) (listed' := #[true, false, false, false, false, false, false]) rfl (by (intro _ h; (exact h))) (gv_fieldAddr fo_46_3 rfl rfl) ?_
                refine st_take 1 rfl (by decide +kernel) (listed' := #[true, true, false, false, false, false, false]) rfl (by (intro _ h; (exact h))) (gv_load1 Tryz.isAgg42 rfl rfl (by exact cin (i := 2) rfl rfl)) ?_
                refine st_take 2 rfl (by decide +kernel) (listed' := #[true, true, true, false, false, false, false]) rfl (by (intro _ h; (exact h))) (gv_move rfl rfl) ?_
                refine st_take 3 rfl (by decide +kernel) (listed' := #[true, true, true, true, false, false, false]) rfl (by (intro _ h; (exact h))) (gv_move rfl rfl) ?_
                refine st_take 4 rfl (by decide +kernel) (listed' := #[true, true, true, true, true, false, false]) rfl (by (intro _ h; (exact h))) (gv_add_ok rfl rfl rfl (inR_i64 (by omega) (by omega))) ?_
                refine ex_sliceRd 5 rfl slt_42 (l := 21 + r.key.length) (vlo := some _) (vhi := none) rfl rfl hR.cons.cons.cons.cons (by (rfl)) trivial (.inl rfl) (.inr ⟨rfl, rfl⟩) (by omega) (by omega) (fun va83 vc83 hR83 hG16_5 => ?_)
                refine st_take 5 rfl (by decide +kernel) (listed' := #[true, true, true, true, true, true, false]) rfl (by (intro _ h; (exact h))) hG16_5 ?_
                refine st_one 6 rfl (by decide +kernel) ?_
                refine s_copyFull (k2 := 1) (i := 0) slt_42 rfl rfl rfl rfl (by ((assumption))) (by exact all_td (bv_one _)) rfl (by omega) ?_
                simp only [List.set_cons_zero, putF]
                refine st_next (listed' := #[true, true, true, true, true, true, true]) rfl (by intro e; cases e) ?_
                refine st_doneK (fr' := [(2, _), (6, _), (9, _)]) (by decide +kernel) rfl ?_
                refine KSs_wp ?_
                refine WPs_seq ?_
                refine WPs_regionK [2, 3, 4] ?_
                refine s_loadN Tryz.isAgg46 Tryz.sizeOf46 (vs := [_, _, _, _, _, _]) rfl rfl (by exact csin (i := 2) (k := 6) rfl rfl) rfl ?_
                refine s_move rfl rfl ?_
                refine s_store (i := 3) Tryz.sizeOf46 rfl rfl rfl (vs := [_, _, _, _, _, _]) rfl rfl rfl rfl ?_
                simp only [List.set_cons_zero, List.set_cons_succ, spl]
                refine s_assign rfl rfl ?_
                refine s_assign rfl rfl ?_
                refine SXs_nilK (fr' := [(2, _), (3, _), (4, _)]) rfl ?_
                refine KSs_wp ?_
                refine WPs_ret ?_
                refine RLs_start ?_
                refine RLs_cellN Tryz.isAgg46 Tryz.sizeOf46 (cs := [_, _, _, _, _, _]) rfl (by exact csin (i := 3) (k := 6) rfl rfl) rfl ?_
                refine RLs_tmp rfl ?_
                refine RLs_tmp rfl ?_
                refine RLs_fin3 ?_
                exact fun w hS => ⟨_, _, _, _, rfl, by rw [← cp_bytes, ← cp_bytes]; exact hS.sl (by (repeat (first | exact Sl.refl _ | (apply Sl.pick 0; exact rfl) | (apply Sl.pick 1; exact rfl) | refine Sl.skip ?_)))⟩
        ·
          refine s_store (i := 1) Tryz.sizeOf42 rfl rfl rfl (vs := [_]) rfl rfl rfl rfl ?_
          simp only [List.set_cons_zero, List.set_cons_succ, spl]
          refine st_next (listed' := #[true, true, true, false, true, true, false, false]) rfl (by intro _ _; (intro _ h; (exact h.tail.tail.tail))) ?_
          refine st_one 3 rfl (by decide +kernel) ?_
          refine s_makeSlice slt_42 rfl rfl rfl rfl (by ((simp only [maxLen]; omega))) (by ((omega))) (fun va38 vc38 => ?_)
          refine st_next (listed' := #[true, true, true, true, true, true, false, false]) rfl (by intro _ _; (intro _ h; (exact h.sl (by (repeat (first | exact Sl.refl _ | refine Sl.skip ?_)))))) ?_
          refine st_take 6 rfl (by decide +kernel) (listed' := #[true, true, true, true, true, true, true, false]) rfl (by (intro _ h; (exact h.sl (by (repeat (first | exact Sl.refl _ | refine Sl.skip ?_)))))) (gv_fieldAddr fo_46_3 rfl rfl) ?_
          refine st_one 7 rfl (by decide +kernel) ?_
          refine s_store (i := 2) Tryz.sizeOf42 rfl rfl rfl (vs := [_]) rfl rfl rfl rfl ?_
          simp only [List.set_cons_zero, List.set_cons_succ, spl]
          refine st_next (listed' := #[true, true, true, true, true, true, true, true]) rfl (by intro e; cases e) ?_
          refine st_doneK (fr' := [(0, _), (2, _), (5, _), (6, _), (7, _)]) (by decide +kernel) rfl ?_
          refine KSs_wp ?_
          refine WPs_seq ?_
          refine WPs_seq ?_
          refine WPs_regionK [0, 2, 5, 6, 7, 43] ?_
          refine SXs_rd (T := 5) 0 rfl (fun hRa => ?_)
          refine SXs_rd (T := 5) 1 rfl (fun hRb => ?_)
          refine s_loadN Tryz.isAgg46 Tryz.sizeOf46 (vs := [_, _, _, _, _, _]) rfl rfl (by exact csin (i := 2) (k := 6) rfl rfl) rfl ?_
          refine s_call Tryz.call23 rfl (vs := [_]) rfl (RCs.perm (by (repeat ((exact List.Perm.refl _)))) (recMay_len (r := r) (kb := List.replicate r.key.length 0) (vb := List.replicate r.value.length 0) (by simp) (by simp) (by (exact rdz hRb)) (by (exact rdz hRa)) hok)) ?_
          rintro v w ⟨rfl, hS⟩
          refine SXs_go hS ?_
          clear hS; clear w
          simp only [putF]
          refine s_not rfl rfl ?_
          refine SXs_nilK (fr' := [(0, _), (2, _), (5, _), (6, _), (7, _), (43, _)]) rfl ?_
          refine KSs_wp ?_
          refine WPs_cond rfl (fun hc6 => ?_) (fun hc6 => ?_)
          · (exfalso; (cases hc6; done))
          · simp only [Bool.not_true] at hc6
            refine WPs_skip ?_
            refine KSs_wp ?_
            refine WPs_seq ?_
            refine WPs_regionK [0, 2, 5, 6, 7, 9] ?_
            refine s_loadN Tryz.isAgg46 Tryz.sizeOf46 (vs := [_, _, _, _, _, _]) rfl rfl (by exact csin (i := 2) (k := 6) rfl rfl) rfl ?_
            refine s_call Tryz.call41 rfl (vs := [_]) rfl (RCs.perm (by (repeat ((exact List.Perm.refl _)))) (recSize_spec (r := r) (by omega) (by omega))) ?_
            rintro v w ⟨rfl, hS⟩
            refine SXs_go hS ?_
            clear hS; clear w
            simp only [putF]
            refine s_assign rfl rfl ?_
            refine SXs_nilK (fr' := [(0, _), (2, _), (5, _), (6, _), (7, _), (9, _)]) rfl ?_
            refine KSs_wp ?_
            refine WPs_seq ?_
            refine WPs_block ?_
            refine WPs_seq ?_
            refine WPs_regionK [0, 2, 5, 6, 7, 9, 51] ?_
            refine s_move rfl rfl ?_
            refine s_lenRd rfl Tryz.underlying42 rfl rfl (by ((apply RdIn.cons; apply RdIn.cons; apply RdIn.cons; apply RdIn.cons; assumption))) ?_
            refine s_move rfl rfl ?_
            refine s_lss rfl rfl rfl ?_
            refine s_assign rfl rfl ?_
            refine SXs_nilK (fr' := [(0, _), (2, _), (5, _), (6, _), (7, _), (9, _), (51, _)]) rfl ?_
            refine KSs_wp ?_
            refine WPs_cond rfl (fun hc7 => ?_) (fun hc7 => ?_)
            · (exfalso; (simp only [decide_eq_true_eq] at hc7; omega))
            · simp only [decide_eq_false_iff_not] at hc7
              refine WPs_seq ?_
              refine WPs_regionK [0, 2, 5, 6, 7, 9, 61] ?_
              refine s_move rfl rfl ?_
              refine s_move rfl rfl ?_
              refine s_sliceRdF F slt_42 (l := 0) (h' := 25 + r.key.length + r.value.length) (vlo := none) (vhi := some _) rfl rfl hR trivial rfl (.inr ⟨rfl, rfl⟩) (.inl rfl) (by omega) (by omega) (fun va64 vc64 hR64 => ?_)
              have hRt2 := rd_take (n := 0) hl hR64
              refine s_call Tryz.call84 rfl (vs := [_]) rfl (RCs.perm (by (repeat ((exact List.Perm.refl _)))) (right_yes (xs := xs.take (25 + r.key.length + r.value.length)) hH hRt2.cons.cons.cons.cons (by rw [List.length_take]; omega) hr)) ?_
              rintro v w ⟨rfl, hS⟩
              refine SXs_go hS ?_
              clear hS; clear w
              simp only [putF]
              refine s_not rfl rfl ?_
              refine s_assign rfl rfl ?_
              refine SXs_nilK (fr' := [(0, _), (2, _), (5, _), (6, _), (7, _), (9, _), (61, _)]) rfl ?_
              refine KSs_wp ?_
              refine WPs_cond rfl (fun hc8 => ?_) (fun hc8 => ?_)
              · (exfalso; (cases hc8; done))
              · simp only [Bool.not_true] at hc8
                refine WPs_skip ?_
                refine KSs_wp ?_
                refine WPs_seq ?_
                refine WPs_drawL [0, 2, 6, 7, 9] [4] Tryz.mixed rfl (listed := #[false, false, false, false, false]) rfl ?_
                refine st_take 0 rfl (by decide +kernel) (listed' := #[true, false, false, false, false]) rfl (by (intro _ h; (exact h))) (gv_fieldAddr fo_46_2 rfl rfl) ?_
                refine st_take 1 rfl (by decide +kernel) (listed' := #[true, true, false, false, false]) rfl (by (intro _ h; (exact h))) (gv_load1 Tryz.isAgg42 rfl rfl (by exact cin (i := 2) rfl rfl)) ?_
                refine st_take 2 rfl (by decide +kernel) (listed' := #[true, true, true, false, false]) rfl (by (intro _ h; (exact h))) (gv_move rfl rfl) ?_
                refine ex_sliceRd 3 rfl slt_42 (l := 21) (vlo := some _) (vhi := none) rfl rfl hR.cons.cons.cons.cons rfl trivial (.inl rfl) (.inr ⟨rfl, rfl⟩) (by omega) (by omega) (fun va76 vc76 hR76 hG15_3 => ?_)
                refine st_take 3 rfl (by decide +kernel) (listed' := #[true, true, true, true, false]) rfl (by (intro _ h; (exact h))) hG15_3 ?_
                refine st_one 4 rfl (by decide +kernel) ?_
                refine s_copyFull (k2 := 1) (i := 1) slt_42 rfl rfl rfl rfl (by ((assumption))) (by exact all_td (bv_one _)) rfl (by omega) ?_
                simp only [List.set_cons_zero, List.set_cons_succ, putF]
                refine st_next (listed' := #[true, true, true, true, true]) rfl (by intro e; cases e) ?_
                refine st_doneK (fr' := [(0, _), (2, _), (6, _), (7, _), (9, _)]) (by decide +kernel) rfl ?_
                refine KSs_wp ?_
                refine WPs_seq ?_
                refine WPs_drawL [2, 6, 9] [6] Tryz.mixed rfl (listed := #[false, false, false, false, false, false, false]) rfl ?_
                refine st_take 0 rfl (by decide +kernel) (listed' := #[true, false, false, false, false, false, false]) rfl (by (intro _ h; (exact h))) (gv_fieldAddr fo_46_3 rfl rfl) ?_
                refine st_take 1 rfl (by decide +kernel) (listed' := #[true, true, false, false, false, false, false]) rfl (by (intro _ h; (exact h))) (gv_load1 Tryz.isAgg42 rfl rfl (by exact cin (i := 2) rfl rfl)) ?_
                refine st_take 2 rfl (by decide +kernel) (listed' := #[true, true, true, false, false, false, false]) rfl (by (intro _ h; (exact h))) (gv_move rfl rfl) ?_
                refine st_take 3 rfl (by decide +kernel) (listed' := #[true, true, true, true, false, false, false]) rfl (by (intro _ h; (exact h))) (gv_move rfl rfl) ?_
                refine st_take 4 rfl (by decide +kernel) (listed' := #[true, true, true, true, true, false, false]) rfl (by (intro _ h; (exact h))) (gv_add_ok rfl rfl rfl (inR_i64 (by omega) (by omega))) ?_
                refine ex_sliceRd 5 rfl slt_42 (l := 21 + r.key.length) (vlo := some _) (vhi := none) rfl rfl hR.cons.cons.cons.cons (by (rfl)) trivial (.inl rfl) (.inr ⟨rfl, rfl⟩) (by omega) (by omega) (fun va83 vc83 hR83 hG16_5 => ?_)
                refine st_take 5 rfl (by decide +kernel) (listed' := #[true, true, true, true, true, true, false]) rfl (by (intro _ h; (exact h))) hG16_5 ?_
                refine st_one 6 rfl (by decide +kernel) ?_
                refine s_copyFull (k2 := 1) (i := 0) slt_42 rfl rfl rfl rfl (by ((assumption))) (by exact all_td (bv_one _)) rfl (by omega) ?_
                simp only [List.set_cons_zero, putF]
                refine st_next (listed' := #[true, true, true, true, true, true, true]) rfl (by intro e; cases e) ?_
                refine st_doneK (fr' := [(2, _), (6, _), (9, _)]) (by decide +kernel) rfl ?_
                refine KSs_wp ?_
                refine WPs_seq ?_
                refine WPs_regionK [2, 3, 4] ?_
                refine s_loadN Tryz.isAgg46 Tryz.sizeOf46 (vs := [_, _, _, _, _, _]) rfl rfl (by exact csin (i := 2) (k := 6) rfl rfl) rfl ?_
                refine s_move rfl rfl ?_
                refine s_store (i := 3) Tryz.sizeOf46 rfl rfl rfl (vs := [_, _, _, _, _, _]) rfl rfl rfl rfl ?_
                simp only [List.set_cons_zero, List.set_cons_succ, spl]
                refine s_assign rfl rfl ?_
                refine s_assign rfl rfl ?_
                refine SXs_nilK (fr' := [(2, _), (3, _), (4, _)]) rfl ?_
                refine KSs_wp ?_
                refine WPs_ret ?_
                refine RLs_start ?_
                refine RLs_cellN Tryz.isAgg46 Tryz.sizeOf46 (cs := [_, _, _, _, _, _]) rfl (by exact csin (i := 3) (k := 6) rfl rfl) rfl ?_
                refine RLs_tmp rfl ?_
                refine RLs_tmp rfl ?_
                refine RLs_fin3 ?_
                exact fun w hS => ⟨_, _, _, _, rfl, by rw [← cp_bytes, ← cp_bytes]; exact hS.sl (by (repeat (first | exact Sl.refl _ | (apply Sl.pick 0; exact rfl) | (apply Sl.pick 1; exact rfl) | refine Sl.skip ?_)))⟩
      ·
        refine s_makeSlice slt_42 rfl rfl rfl rfl (by ((simp only [maxLen]; omega))) (by ((omega))) (fun va38 vc38 => ?_)
        refine st_next (listed' := #[true, false, true, true, false, false, false, false]) rfl (by intro _ _; (intro _ h; (exact h.tail.tail.tail))) ?_
        refine st_one 1 rfl (by decide +kernel) ?_
        refine s_makeSlice slt_42 rfl rfl rfl rfl (by ((simp only [maxLen]; omega))) (by ((omega))) (fun va36 vc36 => ?_)
        refine st_next (listed' := #[true, true, true, true, false, false, false, false]) rfl (by intro _ _; (intro _ h; (exact h.sl (by (repeat (first | exact Sl.refl _ | refine Sl.skip ?_)))))) ?_
        refine st_take 4 rfl (by decide +kernel) (listed' := #[true, true, true, true, true, false, false, false]) rfl (by (intro _ h; (exact h.sl (by (repeat (first | exact Sl.refl _ | refine Sl.skip ?_)))))) (gv_fieldAddr fo_46_2 rfl rfl) ?_
        refine st_one 5 rfl (by decide +kernel) ?_
        refine s_store (i := 2) Tryz.sizeOf42 rfl rfl rfl (vs := [_]) rfl rfl rfl rfl ?_
        simp only [List.set_cons_zero, List.set_cons_succ, spl]
        refine st_next (listed' := #[true, true, true, true, true, true, false, false]) rfl (by intro _ _; (intro _ h; (exact h.sl (by (repeat (first | exact Sl.refl _ | refine Sl.skip ?_)))))) ?_
        refine st_take 6 rfl (by decide +kernel) (listed' := #[true, true, true, true, true, true, true, false]) rfl (by (intro _ h; (exact h.sl (by (repeat (first | exact Sl.refl _ | refine Sl.skip ?_)))))) (gv_fieldAddr fo_46_3 rfl rfl) ?_
        refine st_one 7 rfl (by decide +kernel) ?_
        refine s_store (i := 2) Tryz.sizeOf42 rfl rfl rfl (vs := [_]) rfl rfl rfl rfl ?_
        simp only [List.set_cons_zero, List.set_cons_succ, spl]
        refine st_next (listed' := #[true, true, true, true, true, true, true, true]) rfl (by intro e; cases e) ?_
        refine st_doneK (fr' := [(0, _), (2, _), (5, _), (6, _), (7, _)]) (by decide +kernel) rfl ?_
        refine KSs_wp ?_
        refine WPs_seq ?_
        refine WPs_seq ?_
        refine WPs_regionK [0, 2, 5, 6, 7, 43] ?_
        refine SXs_rd (T := 5) 0 rfl (fun hRa => ?_)
        refine SXs_rd (T := 5) 1 rfl (fun hRb => ?_)
        refine s_loadN Tryz.isAgg46 Tryz.sizeOf46 (vs := [_, _, _, _, _, _]) rfl rfl (by exact csin (i := 2) (k := 6) rfl rfl) rfl ?_
        refine s_call Tryz.call23 rfl (vs := [_]) rfl (RCs.perm (by (repeat ((exact List.Perm.refl _)))) (recMay_len (r := r) (kb := List.replicate r.key.length 0) (vb := List.replicate r.value.length 0) (by simp) (by simp) (by (exact rdz hRa)) (by (exact rdz hRb)) hok)) ?_
        rintro v w ⟨rfl, hS⟩
        refine SXs_go hS ?_
        clear hS; clear w
        simp only [putF]
        refine s_not rfl rfl ?_
        refine SXs_nilK (fr' := [(0, _), (2, _), (5, _), (6, _), (7, _), (43, _)]) rfl ?_
        refine KSs_wp ?_
        refine WPs_cond rfl (fun hc9 => ?_) (fun hc9 => ?_)
        · (exfalso; (cases hc9; done))
        · simp only [Bool.not_true] at hc9
          refine WPs_skip ?_
          refine KSs_wp ?_
          refine WPs_seq ?_
          refine WPs_regionK [0, 2, 5, 6, 7, 9] ?_
          refine s_loadN Tryz.isAgg46 Tryz.sizeOf46 (vs := [_, _, _, _, _, _]) rfl rfl (by exact csin (i := 2) (k := 6) rfl rfl) rfl ?_
          refine s_call Tryz.call41 rfl (vs := [_]) rfl (RCs.perm (by (repeat ((exact List.Perm.refl _)))) (recSize_spec (r := r) (by omega) (by omega))) ?_
          rintro v w ⟨rfl, hS⟩
          refine SXs_go hS ?_
          clear hS; clear w
          simp only [putF]
          refine s_assign rfl rfl ?_
          refine SXs_nilK (fr' := [(0, _), (2, _), (5, _), (6, _), (7, _), (9, _)]) rfl ?_
          refine KSs_wp ?_
          refine WPs_seq ?_
          refine WPs_block ?_
          refine WPs_seq ?_
          refine WPs_regionK [0, 2, 5, 6, 7, 9, 51] ?_
          refine s_move rfl rfl ?_
          refine s_lenRd rfl Tryz.underlying42 rfl rfl (by ((apply RdIn.cons; apply RdIn.cons; apply RdIn.cons; apply RdIn.cons; assumption))) ?_
          refine s_move rfl rfl ?_
          refine s_lss rfl rfl rfl ?_
          refine s_assign rfl rfl ?_
          refine SXs_nilK (fr' := [(0, _), (2, _), (5, _), (6, _), (7, _), (9, _), (51, _)]) rfl ?_
          refine KSs_wp ?_
          refine WPs_cond rfl (fun hc10 => ?_) (fun hc10 => ?_)
          · (exfalso; (simp only [decide_eq_true_eq] at hc10; omega))
          · simp only [decide_eq_false_iff_not] at hc10
            refine WPs_seq ?_
            refine WPs_regionK [0, 2, 5, 6, 7, 9, 61] ?_
            refine s_move rfl rfl ?_
            refine s_move rfl rfl ?_
            refine s_sliceRdF F slt_42 (l := 0) (h' := 25 + r.key.length + r.value.length) (vlo := none) (vhi := some _) rfl rfl hR trivial rfl (.inr ⟨rfl, rfl⟩) (.inl rfl) (by omega) (by omega) (fun va64 vc64 hR64 => ?_)
            have hRt2 := rd_take (n := 0) hl hR64
            refine s_call Tryz.call84 rfl (vs := [_]) rfl (RCs.perm (by (repeat ((exact List.Perm.refl _)))) (right_yes (xs := xs.take (25 + r.key.length + r.value.length)) hH hRt2.cons.cons.cons.cons (by rw [List.length_take]; omega) hr)) ?_
            rintro v w ⟨rfl, hS⟩
            refine SXs_go hS ?_
            clear hS; clear w
            simp only [putF]
            refine s_not rfl rfl ?_
            refine s_assign rfl rfl ?_
            refine SXs_nilK (fr' := [(0, _), (2, _), (5, _), (6, _), (7, _), (9, _), (61, _)]) rfl ?_
            refine KSs_wp ?_
            refine WPs_cond rfl (fun hc11 => ?_) (fun hc11 => ?_)
            · (exfalso; (cases hc11; done))
            · simp only [Bool.not_true] at hc11
              refine WPs_skip ?_
              refine KSs_wp ?_
              refine WPs_seq ?_
              refine WPs_drawL [0, 2, 6, 7, 9] [4] Tryz.mixed rfl (listed := #[false, false, false, false, false]) rfl ?_
              refine st_take 0 rfl (by decide +kernel) (listed' := #[true, false, false, false, false]) rfl (by (intro _ h; (exact h))) (gv_fieldAddr fo_46_2 rfl rfl) ?_
              refine st_take 1 rfl (by decide +kernel) (listed' := #[true, true, false, false, false]) rfl (by (intro _ h; (exact h))) (gv_load1 Tryz.isAgg42 rfl rfl (by exact cin (i := 2) rfl rfl)) ?_
              refine st_take 2 rfl (by decide +kernel) (listed' := #[true, true, true, false, false]) rfl (by (intro _ h; (exact h))) (gv_move rfl rfl) ?_
              refine ex_sliceRd 3 rfl slt_42 (l := 21) (vlo := some _) (vhi := none) rfl rfl hR.cons.cons.cons.cons rfl trivial (.inl rfl) (.inr ⟨rfl, rfl⟩) (by omega) (by omega) (fun va76 vc76 hR76 hG15_3 => ?_)
              refine st_take 3 rfl (by decide +kernel) (listed' := #[true, true, true, true, false]) rfl (by (intro _ h; (exact h))) hG15_3 ?_
              refine st_one 4 rfl (by decide +kernel) ?_
              refine s_copyFull (k2 := 1) (i := 0) slt_42 rfl rfl rfl rfl (by ((assumption))) (by exact all_td (bv_one _)) rfl (by omega) ?_
              simp only [List.set_cons_zero, putF]
              refine st_next (listed' := #[true, true, true, true, true]) rfl (by intro e; cases e) ?_
              refine st_doneK (fr' := [(0, _), (2, _), (6, _), (7, _), (9, _)]) (by decide +kernel) rfl ?_
              refine KSs_wp ?_
              refine WPs_seq ?_
              refine WPs_drawL [2, 6, 9] [6] Tryz.mixed rfl (listed := #[false, false, false, false, false, false, false]) rfl ?_
              refine st_take 0 rfl (by decide +kernel) (listed' := #[true, false, false, false, false, false, false]) rfl (by (intro _ h; (exact h))) (gv_fieldAddr fo_46_3 rfl rfl) ?_
              refine st_take 1 rfl (by decide +kernel) (listed' := #[true, true, false, false, false, false, false]) rfl (by (intro _ h; (exact h))) (gv_load1 Tryz.isAgg42 rfl rfl (by exact cin (i := 2) rfl rfl)) ?_
              refine st_take 2 rfl (by decide +kernel) (listed' := #[true, true, true, false, false, false, false]) rfl (by (intro _ h; (exact h))) (gv_move rfl rfl) ?_
              refine st_take 3 rfl (by decide +kernel) (listed' := #[true, true, true, true, false, false, false]) rfl (by (intro _ h; (exact h))) (gv_move rfl rfl) ?_
              refine st_take 4 rfl (by decide +kernel) (listed' := #[true, true, true, true, true, false, false]) rfl (by (intro _ h; (exact h))) (gv_add_ok rfl rfl rfl (inR_i64 (by omega) (by omega))) ?_
              refine ex_sliceRd 5 rfl slt_42 (l := 21 + r.key.length) (vlo := some _) (vhi := none) rfl rfl hR.cons.cons.cons.cons (by (rfl)) trivial (.inl rfl) (.inr ⟨rfl, rfl⟩) (by omega) (by omega) (fun va83 vc83 hR83 hG16_5 => ?_)
              refine st_take 5 rfl (by decide +kernel) (listed' := #[true, true, true, true, true, true, false]) rfl (by (intro _ h; (exact h))) hG16_5 ?_
              refine st_one 6 rfl (by decide +kernel) ?_
              refine s_copyFull (k2 := 1) (i := 1) slt_42 rfl rfl rfl rfl (by ((assumption))) (by exact all_td (bv_one _)) rfl (by omega) ?_
              simp only [List.set_cons_zero, List.set_cons_succ, putF]
              refine st_next (listed' := #[true, true, true, true, true, true, true]) rfl (by intro e; cases e) ?_
              refine st_doneK (fr' := [(2, _), (6, _), (9, _)]) (by decide +kernel) rfl ?_
              refine KSs_wp ?_
              refine WPs_seq ?_
              refine WPs_regionK [2, 3, 4] ?_
              refine s_loadN Tryz.isAgg46 Tryz.sizeOf46 (vs := [_, _, _, _, _, _]) rfl rfl (by exact csin (i := 2) (k := 6) rfl rfl) rfl ?_
              refine s_move rfl rfl ?_
              refine s_store (i := 3) Tryz.sizeOf46 rfl rfl rfl (vs := [_, _, _, _, _, _]) rfl rfl rfl rfl ?_
              simp only [List.set_cons_zero, List.set_cons_succ, spl]
              refine s_assign rfl rfl ?_
              refine s_assign rfl rfl ?_
              refine SXs_nilK (fr' := [(2, _), (3, _), (4, _)]) rfl ?_
              refine KSs_wp ?_
              refine WPs_ret ?_
              refine RLs_start ?_
              refine RLs_cellN Tryz.isAgg46 Tryz.sizeOf46 (cs := [_, _, _, _, _, _]) rfl (by exact csin (i := 3) (k := 6) rfl rfl) rfl ?_
              refine RLs_tmp rfl ?_
              refine RLs_tmp rfl ?_
              refine RLs_fin3 ?_
              exact fun w hS => ⟨_, _, _, _, rfl, by rw [← cp_bytes, ← cp_bytes]; exact hS.sl (by (repeat (first | exact Sl.refl _ | (apply Sl.pick 0; exact rfl) | refine Sl.skip ?_)))⟩
end Go.Proofs.YthodbnmeggkkoaaGreatDoor
