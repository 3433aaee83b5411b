/- Walks. -/
import Derived.Test.YthfhiepgdeghpaaKFnPicksE
import Derived.Test.YthfhiepgdeghpaaKFnPicksW0
import Derived.Test.YthfhiepgdeghpaaKFnPicksW2
set_option linter.unusedVariables false
set_option linter.unusedSimpArgs false
set_option maxHeartbeats 8000000
set_option maxRecDepth 100000
namespace Go.TV.KFnPicks
attribute [local irreducible] anyV wpV opsV Does thenV blockV RetL quV seqV
open Go.Proofs.Try Go.TV.F
theorem W_spec_l06Right (c : T_spec_l01Cur) (n : Int) (r' : T_impl_Weave × T_spec_l01Cur) (h0' : spec_l06Right c n = some r') : Fn X 84 [.one (.box true [.list false 1 (List.map (rK .u8) c.b), .sc (.int .i64 c.i), .sc (.int .i64 c.h)]), .one (.sc (.int .i64 n))] [.agg [.list true 1 (List.map (rL true 1 (rK .i64)) r'.1.Parents), .list true 4 (List.map (r_T_impl_Body true) r'.1.Bodies)]] [(0, .box true [.list false 1 (List.map (rK .u8) r'.2.b), .sc (.int .i64 r'.2.i), .sc (.int .i64 r'.2.h)])] := by
  have H' := And.intro t3 (And.intro t9 (And.intro t38 (And.intro t39 (And.intro t41 (And.intro t55 (And.intro R_Li64 (And.intro R_T_impl_Body (And.intro R_i64 (And.intro R_s (R_u8))))))))))
  unfold spec_l06Right at h0'
  refine Fn.start (fn := f84) (N := 53) (res := [.cell 4 41]) rfl rfl rfl rfl rfl (by simp) ?_
  refine enterG H' ?_
  refine wpV_seq1 ?_
  refine wpV_region ?_
  refine ops H' ?_
  refine opsN ?_
  refine wpV_seq1 ?_
  refine wpV_region ?_
  refine ops H' ?_
  refine opsN ?_
  refine wpV_seqJ (fun e' => ∃ c_1 c_2 c_3 w w_1, spec_l06Right_j1 c_1 c_2 c_3 w w_1 = some r' ∧ e' = { N := 53, np := 2, nx := 4, sl := [(4, .pl (.one (.ref 2 []))), (5, .pl (.one (.ref 3 [])))], ob := [(0, .box true [.list false 1 (List.map (rK .u8) c_1), .sc (.int .i64 c_2), .sc (.int .i64 c_3)]), (2, .box true [.list true 1 (List.map (rL true 1 (rK .i64)) []), .list true 4 (List.map (r_T_impl_Body true) [])]), (3, .box true [.list true 1 (List.map (rL true 1 (rK .i64)) w), .list true 4 (List.map (r_T_impl_Body true) w_1)])] }) ?_ ?_
  · refine wpV_seq1 ?_
    refine wpV_region ?_
    refine ops H' ?_
    refine opsN ?_
    obtain ⟨p, hl', h0'⟩ := Option.bind_eq_some_iff.1 h0'
    refine wpV_block ?_
    refine wpV_loopM (fun s' e' => ∃ v c_4 c_5 c_6 w_2 w_3, s' = (v, c_4, c_5, c_6, w_2, w_3) ∧ e' = { N := 53, np := 2, nx := 4, sl := [(0, .pl (.one (.ref 0 []))), (1, .pl (.one (.v (.sc (.int .i64 n))))), (4, .pl (.one (.ref 2 []))), (5, .pl (.one (.ref 3 []))), (6, .pl (.one (.v (.sc (.int .i64 v)))))], ob := [(0, .box true [.list false 1 (List.map (rK .u8) c_4), .sc (.int .i64 c_5), .sc (.int .i64 c_6)]), (2, .box true [.list true 1 (List.map (rL true 1 (rK .i64)) []), .list true 4 (List.map (r_T_impl_Body true) [])]), (3, .box true [.list true 1 (List.map (rL true 1 (rK .i64)) w_2), .list true 4 (List.map (r_T_impl_Body true) w_3)])] }) hl' (shd [0, 1, 4, 5, 6] [(0, 0), (2, 2), (3, 3)] 4 ⟨_, _, _, _, _, _, rfl, rfl⟩) ?_
    rintro s' y1' e' h1' ⟨v, c_4, c_5, c_6, w_2, w_3, rfl, rfl⟩
    replace h1' : spec_l06Right_l1 n v c_4 c_5 c_6 w_2 w_3 = some y1' := h1'
    unfold spec_l06Right_l1 at h1'
    refine wpV_seq1 ?_
    refine wpV_seq1 ?_
    refine wpV_region ?_
    refine ops H' ?_
    refine opsN ?_
    refine wpV_split (fun hc' => ?_) (fun hc' => ?_)
    · replace h1' := (ifT hc').symm.trans h1'
      refine skipN ?_
      refine wpV_seq1 ?_
      refine wpV_block ?_
      refine wpV_seq1 ?_
      refine wpV_region ?_
      refine ops H' ?_
      obtain ⟨x20, hy', h1'⟩ := Option.bind_eq_some_iff.1 h1'
      refine callGD H' (fun _ => [0]) (W_spec_l05Parents _ _ _ hy') ?_
      refine ops H' ?_
      refine opsN ?_
      refine wpV_seq1 ?_
      obtain ⟨x25, hy_x25, h1'⟩ := Option.bind_eq_some_iff.1 h1'
      obtain ⟨x26, hy_x26, h1'⟩ := Option.bind_eq_some_iff.1 h1'
      obtain ⟨x27, hy_x27, h1'⟩ := Option.bind_eq_some_iff.1 h1'
      refine wpV_J (fun e' => e' = { N := 53, np := 2, nx := 6, sl := [(0, .pl (.one (.ref 0 []))), (1, .pl (.one (.v (.sc (.int .i64 n))))), (4, .pl (.one (.ref 2 []))), (5, .pl (.one (.ref 3 []))), (6, .pl (.one (.v (.sc (.int .i64 v))))), (7, .pl (.one (.ref 4 []))), (8, .pl (.one (.ref 5 [])))], ob := [(0, .box true [.list false 1 (List.map (rK .u8) x27.2.b), .sc (.int .i64 x27.2.i), .sc (.int .i64 x27.2.h)]), (2, .box true [.list true 1 (List.map (rL true 1 (rK .i64)) []), .list true 4 (List.map (r_T_impl_Body true) [])]), (3, .box true [.list true 1 (List.map (rL true 1 (rK .i64)) w_2), .list true 4 (List.map (r_T_impl_Body true) w_3)]), (4, .list true 1 (List.map (rK .i64) x20.1)), (5, .list true 1 (List.map rS x27.1))] }) ?_ ?_
      · refine regAnyF [] ?_
        refine (?_ : anyF X ?ops6_0_0 _ _ ?P6_0_0 _)
        have d6_0_0_0' : anyF X ?ops6_0_0 [0, 1, 2, 3, 4, 5, 6, 7] [] ?P6_0_0 { N := 53, np := 2, nx := 6, sl := [(0, .pl (.one (.ref 0 []))), (1, .pl (.one (.v (.sc (.int .i64 n))))), (4, .pl (.one (.ref 2 []))), (5, .pl (.one (.ref 3 []))), (6, .pl (.one (.v (.sc (.int .i64 v))))), (7, .pl (.one (.ref 4 []))), (8, .pl (.one (.ref 5 [])))], ob := [(0, .box true [.list false 1 (List.map (rK .u8) x27.2.b), .sc (.int .i64 x27.2.i), .sc (.int .i64 x27.2.h)]), (2, .box true [.list true 1 (List.map (rL true 1 (rK .i64)) []), .list true 4 (List.map (r_T_impl_Body true) [])]), (3, .box true [.list true 1 (List.map (rL true 1 (rK .i64)) w_2), .list true 4 (List.map (r_T_impl_Body true) w_3)]), (4, .list true 1 (List.map (rK .i64) x20.1)), (5, .list true 1 (List.map rS x27.1))] } := by
          refine fend (e2 := { N := 53, np := 2, nx := 6, sl := [(0, .pl (.one (.ref 0 []))), (1, .pl (.one (.v (.sc (.int .i64 n))))), (4, .pl (.one (.ref 2 []))), (5, .pl (.one (.ref 3 []))), (6, .pl (.one (.v (.sc (.int .i64 v))))), (7, .pl (.one (.ref 4 []))), (8, .pl (.one (.ref 5 [])))], ob := [(0, .box true [.list false 1 (List.map (rK .u8) x27.2.b), .sc (.int .i64 x27.2.i), .sc (.int .i64 x27.2.h)]), (2, .box true [.list true 1 (List.map (rL true 1 (rK .i64)) []), .list true 4 (List.map (r_T_impl_Body true) [])]), (3, .box true [.list true 1 (List.map (rL true 1 (rK .i64)) w_2), .list true 4 (List.map (r_T_impl_Body true) w_3)]), (4, .list true 1 (List.map (rK .i64) x20.1)), (5, .list true 1 (List.map rS x27.1))] }) [] [] [] [] trivial ⟨rfl, shd [0, 1, 4, 5, 6, 7, 8] [(0, 0), (2, 2), (3, 3), (4, 4), (5, 5)] 6 rfl⟩
        have d6_0_0_1' : anyF X ?ops6_0_0 [0, 1, 2, 3, 4, 5, 6] [] ?P6_0_0 { N := 53, np := 2, nx := 6, sl := [(0, .pl (.one (.ref 0 []))), (1, .pl (.one (.v (.sc (.int .i64 n))))), (4, .pl (.one (.ref 2 []))), (5, .pl (.one (.ref 3 []))), (6, .pl (.one (.v (.sc (.int .i64 v))))), (7, .pl (.one (.ref 4 []))), (27, .pl (.one (.ref 5 [])))], ob := [(0, .box true [.list false 1 (List.map (rK .u8) x27.2.b), .sc (.int .i64 x27.2.i), .sc (.int .i64 x27.2.h)]), (2, .box true [.list true 1 (List.map (rL true 1 (rK .i64)) []), .list true 4 (List.map (r_T_impl_Body true) [])]), (3, .box true [.list true 1 (List.map (rL true 1 (rK .i64)) w_2), .list true 4 (List.map (r_T_impl_Body true) w_3)]), (4, .list true 1 (List.map (rK .i64) x20.1)), (5, .list true 1 (List.map rS x27.1))] } := by
          refine fnode [] [.m 7 [] [0, 1, 2, 3, 4, 5, 6, 7] []] [] [(7, false, [], [0, 1, 2, 3, 4, 5, 6, 7])] ⟨?_, trivial⟩
          · refine obM ?_
            refine ops H' ?_
            refine opsV_nil ⟨rfl, .inl ⟨rfl, ?_⟩⟩
            exact anyFShd [0, 1, 4, 5, 6, 7, 8] [(0, 0), (2, 2), (3, 3), (4, 4), (5, 5)] 6 d6_0_0_0'
        have d6_0_0_2' : anyF X ?ops6_0_0 [0, 1, 2, 3, 4, 5] [] ?P6_0_0 { N := 53, np := 2, nx := 6, sl := [(0, .pl (.one (.ref 0 []))), (1, .pl (.one (.v (.sc (.int .i64 n))))), (4, .pl (.one (.ref 2 []))), (5, .pl (.one (.ref 3 []))), (6, .pl (.one (.v (.sc (.int .i64 v))))), (7, .pl (.one (.ref 4 []))), (21, .pl (.one (.ref 0 []))), (26, .pl (.one (.ref 5 [])))], ob := [(0, .box true [.list false 1 (List.map (rK .u8) x20.2.b), .sc (.int .i64 x20.2.i), .sc (.int .i64 x20.2.h)]), (2, .box true [.list true 1 (List.map (rL true 1 (rK .i64)) []), .list true 4 (List.map (r_T_impl_Body true) [])]), (3, .box true [.list true 1 (List.map (rL true 1 (rK .i64)) w_2), .list true 4 (List.map (r_T_impl_Body true) w_3)]), (4, .list true 1 (List.map (rK .i64) x20.1)), (5, .list true 1 (List.map rS x26))] } := by
          refine fnode [] [.m 6 [] [0, 1, 2, 3, 4, 5, 6] []] [] [(6, false, [], [0, 1, 2, 3, 4, 5, 6])] ⟨?_, trivial⟩
          · refine obM ?_
            refine opsV_frz H' 5 ?_
            refine callGD H' (fun _ => [0]) (W_spec_l04Near _ _ _ hy_x27) ?_
            refine opsV_nil ⟨rfl, .inl ⟨rfl, ?_⟩⟩
            exact anyFShd [0, 1, 4, 5, 6, 7, 27] [(0, 0), (2, 2), (3, 3), (4, 4), (6, 5)] 6 d6_0_0_1'
        have d6_0_0_3' : anyF X ?ops6_0_0 [0, 1, 2, 3, 4] [] ?P6_0_0 { N := 53, np := 2, nx := 6, sl := [(0, .pl (.one (.ref 0 []))), (1, .pl (.one (.v (.sc (.int .i64 n))))), (4, .pl (.one (.ref 2 []))), (5, .pl (.one (.ref 3 []))), (6, .pl (.one (.v (.sc (.int .i64 v))))), (7, .pl (.one (.ref 4 []))), (21, .pl (.one (.ref 0 []))), (22, .pl (.agg [.ref 3 [(0, 0, 0)], .ref 3 [(0, 0, 1)]])), (25, .pl (.one (.ref 5 [])))], ob := [(0, .box true [.list false 1 (List.map (rK .u8) x20.2.b), .sc (.int .i64 x20.2.i), .sc (.int .i64 x20.2.h)]), (2, .box true [.list true 1 (List.map (rL true 1 (rK .i64)) []), .list true 4 (List.map (r_T_impl_Body true) [])]), (3, .box true [.list true 1 (List.map (rL true 1 (rK .i64)) w_2), .list true 4 (List.map (r_T_impl_Body true) w_3)]), (4, .list true 1 (List.map (rK .i64) x20.1)), (5, .list true 1 (List.map (rK .i64) x25))] } := by
          refine fnode [] [.m 5 [] [0, 1, 2, 3, 4, 5] []] [] [(5, false, [], [0, 1, 2, 3, 4, 5])] ⟨?_, trivial⟩
          · refine obM ?_
            refine callG H' (fun _ => []) (W_spec_l06Lines _ _ _ hy_x26) ?_
            refine opsV_nil ⟨rfl, .inl ⟨rfl, ?_⟩⟩
            exact anyFShd [0, 1, 4, 5, 6, 7, 21, 26] [(0, 0), (2, 2), (3, 3), (4, 4), (6, 5)] 6 d6_0_0_2'
        have d6_0_0_4' : anyF X ?ops6_0_0 [0, 1, 2, 3] [] ?P6_0_0 { N := 53, np := 2, nx := 5, sl := [(0, .pl (.one (.ref 0 []))), (1, .pl (.one (.v (.sc (.int .i64 n))))), (4, .pl (.one (.ref 2 []))), (5, .pl (.one (.ref 3 []))), (6, .pl (.one (.v (.sc (.int .i64 v))))), (7, .pl (.one (.ref 4 []))), (21, .pl (.one (.ref 0 []))), (22, .pl (.agg [.ref 3 [(0, 0, 0)], .ref 3 [(0, 0, 1)]])), (23, .pl (.agg [.ref 3 [(0, 0, 0)], .ref 3 [(0, 0, 1)]])), (24, .pl (.one (.ref 4 [])))], ob := [(0, .box true [.list false 1 (List.map (rK .u8) x20.2.b), .sc (.int .i64 x20.2.i), .sc (.int .i64 x20.2.h)]), (2, .box true [.list true 1 (List.map (rL true 1 (rK .i64)) []), .list true 4 (List.map (r_T_impl_Body true) [])]), (3, .box true [.list true 1 (List.map (rL true 1 (rK .i64)) w_2), .list true 4 (List.map (r_T_impl_Body true) w_3)]), (4, .list true 1 (List.map (rK .i64) x20.1))] } := by
          refine fnode [] [.m 4 [] [0, 1, 2, 3, 4] []] [] [(4, false, [], [0, 1, 2, 3, 4])] ⟨?_, trivial⟩
          · refine obM ?_
            refine callG H' (fun _ => []) (W_spec_l06Seen _ _ _ hy_x25) ?_
            refine opsV_nil ⟨rfl, .inl ⟨rfl, ?_⟩⟩
            exact anyFShd [0, 1, 4, 5, 6, 7, 21, 22, 25] [(0, 0), (2, 2), (3, 3), (4, 4), (5, 5)] 6 d6_0_0_3'
        have d6_0_0_5' : anyF X ?ops6_0_0 [0, 1, 3] [] ?P6_0_0 { N := 53, np := 2, nx := 5, sl := [(0, .pl (.one (.ref 0 []))), (1, .pl (.one (.v (.sc (.int .i64 n))))), (4, .pl (.one (.ref 2 []))), (5, .pl (.one (.ref 3 []))), (6, .pl (.one (.v (.sc (.int .i64 v))))), (7, .pl (.one (.ref 4 []))), (21, .pl (.one (.ref 0 []))), (22, .pl (.agg [.ref 3 [(0, 0, 0)], .ref 3 [(0, 0, 1)]])), (24, .pl (.one (.ref 4 [])))], ob := [(0, .box true [.list false 1 (List.map (rK .u8) x20.2.b), .sc (.int .i64 x20.2.i), .sc (.int .i64 x20.2.h)]), (2, .box true [.list true 1 (List.map (rL true 1 (rK .i64)) []), .list true 4 (List.map (r_T_impl_Body true) [])]), (3, .box true [.list true 1 (List.map (rL true 1 (rK .i64)) w_2), .list true 4 (List.map (r_T_impl_Body true) w_3)]), (4, .list true 1 (List.map (rK .i64) x20.1))] } := by
          refine fnode [] [.m 2 [] [0, 1, 2, 3] []] [] [(2, false, [], [0, 1, 2, 3])] ⟨?_, trivial⟩
          · refine obM ?_
            refine ops H' ?_
            refine opsV_nil ⟨rfl, .inl ⟨rfl, ?_⟩⟩
            exact anyFShd [0, 1, 4, 5, 6, 7, 21, 22, 23, 24] [(0, 0), (2, 2), (3, 3), (4, 4)] 5 d6_0_0_4'
        have d6_0_0_6' : anyF X ?ops6_0_0 [0, 2, 3, 4] [] ?P6_0_0 { N := 53, np := 2, nx := 6, sl := [(0, .pl (.one (.ref 0 []))), (1, .pl (.one (.v (.sc (.int .i64 n))))), (4, .pl (.one (.ref 2 []))), (5, .pl (.one (.ref 3 []))), (6, .pl (.one (.v (.sc (.int .i64 v))))), (7, .pl (.one (.ref 4 []))), (21, .pl (.one (.ref 0 []))), (25, .pl (.one (.ref 5 [])))], ob := [(0, .box true [.list false 1 (List.map (rK .u8) x20.2.b), .sc (.int .i64 x20.2.i), .sc (.int .i64 x20.2.h)]), (2, .box true [.list true 1 (List.map (rL true 1 (rK .i64)) []), .list true 4 (List.map (r_T_impl_Body true) [])]), (3, .box true [.list true 1 (List.map (rL true 1 (rK .i64)) w_2), .list true 4 (List.map (r_T_impl_Body true) w_3)]), (4, .list true 1 (List.map (rK .i64) x20.1)), (5, .list true 1 (List.map (rK .i64) x25))] } := by
          refine fnode [] [.m 1 [] [0, 1, 2, 3, 4] []] [] [(1, false, [], [0, 1, 2, 3, 4])] ⟨?_, trivial⟩
          · refine obM ?_
            refine ops H' ?_
            refine opsV_nil ⟨rfl, .inl ⟨rfl, ?_⟩⟩
            exact anyFShd [0, 1, 4, 5, 6, 7, 21, 22, 25] [(0, 0), (2, 2), (3, 3), (4, 4), (5, 5)] 6 d6_0_0_3'
        have d6_0_0_7' : anyF X ?ops6_0_0 [0, 2, 3] [] ?P6_0_0 { N := 53, np := 2, nx := 5, sl := [(0, .pl (.one (.ref 0 []))), (1, .pl (.one (.v (.sc (.int .i64 n))))), (4, .pl (.one (.ref 2 []))), (5, .pl (.one (.ref 3 []))), (6, .pl (.one (.v (.sc (.int .i64 v))))), (7, .pl (.one (.ref 4 []))), (21, .pl (.one (.ref 0 []))), (23, .pl (.agg [.ref 3 [(0, 0, 0)], .ref 3 [(0, 0, 1)]])), (24, .pl (.one (.ref 4 [])))], ob := [(0, .box true [.list false 1 (List.map (rK .u8) x20.2.b), .sc (.int .i64 x20.2.i), .sc (.int .i64 x20.2.h)]), (2, .box true [.list true 1 (List.map (rL true 1 (rK .i64)) []), .list true 4 (List.map (r_T_impl_Body true) [])]), (3, .box true [.list true 1 (List.map (rL true 1 (rK .i64)) w_2), .list true 4 (List.map (r_T_impl_Body true) w_3)]), (4, .list true 1 (List.map (rK .i64) x20.1))] } := by
          refine fnode [] [.m 1 [] [0, 1, 2, 3] [], .m 4 [] [0, 2, 3, 4] []] [] [(1, false, [], [0, 1, 2, 3]), (4, false, [], [0, 2, 3, 4])] ⟨?_, ?_, trivial⟩
          · refine obM ?_
            refine ops H' ?_
            refine opsV_nil ⟨rfl, .inl ⟨rfl, ?_⟩⟩
            exact anyFShd [0, 1, 4, 5, 6, 7, 21, 22, 23, 24] [(0, 0), (2, 2), (3, 3), (4, 4)] 5 d6_0_0_4'
          · refine obM ?_
            refine callG H' (fun _ => []) (W_spec_l06Seen _ _ _ hy_x25) ?_
            refine opsV_nil ⟨rfl, .inl ⟨rfl, ?_⟩⟩
            exact anyFShd [0, 1, 4, 5, 6, 7, 21, 25] [(0, 0), (2, 2), (3, 3), (4, 4), (5, 5)] 6 d6_0_0_6'
        have d6_0_0_8' : anyF X ?ops6_0_0 [0, 3] [] ?P6_0_0 { N := 53, np := 2, nx := 5, sl := [(0, .pl (.one (.ref 0 []))), (1, .pl (.one (.v (.sc (.int .i64 n))))), (4, .pl (.one (.ref 2 []))), (5, .pl (.one (.ref 3 []))), (6, .pl (.one (.v (.sc (.int .i64 v))))), (7, .pl (.one (.ref 4 []))), (21, .pl (.one (.ref 0 []))), (24, .pl (.one (.ref 4 [])))], ob := [(0, .box true [.list false 1 (List.map (rK .u8) x20.2.b), .sc (.int .i64 x20.2.i), .sc (.int .i64 x20.2.h)]), (2, .box true [.list true 1 (List.map (rL true 1 (rK .i64)) []), .list true 4 (List.map (r_T_impl_Body true) [])]), (3, .box true [.list true 1 (List.map (rL true 1 (rK .i64)) w_2), .list true 4 (List.map (r_T_impl_Body true) w_3)]), (4, .list true 1 (List.map (rK .i64) x20.1))] } := by
          refine fnode [] [.m 1 [] [0, 1, 3] [], .m 2 [] [0, 2, 3] []] [] [(1, false, [], [0, 1, 3]), (2, false, [], [0, 2, 3])] ⟨?_, ?_, trivial⟩
          · refine obM ?_
            refine ops H' ?_
            refine opsV_nil ⟨rfl, .inl ⟨rfl, ?_⟩⟩
            exact anyFShd [0, 1, 4, 5, 6, 7, 21, 22, 24] [(0, 0), (2, 2), (3, 3), (4, 4)] 5 d6_0_0_5'
          · refine obM ?_
            refine ops H' ?_
            refine opsV_nil ⟨rfl, .inl ⟨rfl, ?_⟩⟩
            exact anyFShd [0, 1, 4, 5, 6, 7, 21, 23, 24] [(0, 0), (2, 2), (3, 3), (4, 4)] 5 d6_0_0_7'
        refine fpure H' 0 [0] [] ?_
        refine fpure H' 3 [0, 3] [] ?_
        exact anyFShd [0, 1, 4, 5, 6, 7, 21, 24] [(0, 0), (2, 2), (3, 3), (4, 4)] 5 d6_0_0_8'
      · rintro e' rfl
        refine contN ?_
        refine wpV_seqJ (fun e' => ∃ c_7 c_8 c_9 lines, spec_l06Right_j2 v w_2 w_3 x20 c_7 c_8 c_9 lines = some y1' ∧ e' = { N := 53, np := 2, nx := 6, sl := [(0, .pl (.one (.ref 0 []))), (1, .pl (.one (.v (.sc (.int .i64 n))))), (4, .pl (.one (.ref 2 []))), (5, .pl (.one (.ref 3 []))), (6, .pl (.one (.v (.sc (.int .i64 v))))), (7, .pl (.one (.ref 4 []))), (8, .pl (.one (.ref 5 [])))], ob := [(0, .box true [.list false 1 (List.map (rK .u8) c_7), .sc (.int .i64 c_8), .sc (.int .i64 c_9)]), (2, .box true [.list true 1 (List.map (rL true 1 (rK .i64)) []), .list true 4 (List.map (r_T_impl_Body true) [])]), (3, .box true [.list true 1 (List.map (rL true 1 (rK .i64)) w_2), .list true 4 (List.map (r_T_impl_Body true) w_3)]), (4, .list true 1 (List.map (rK .i64) x20.1)), (5, .list true 1 (List.map rS lines))] }) ?_ ?_
        · refine wpV_seq1 ?_
          refine wpV_region ?_
          refine ops H' ?_
          obtain ⟨b, gh1', h1'⟩ := Option.bind_eq_some_iff.1 h1'
          refine opsV_cut 3 (fun e' => e' = { N := 53, np := 2, nx := 6, sl := [(0, .pl (.one (.ref 0 []))), (1, .pl (.one (.v (.sc (.int .i64 n))))), (4, .pl (.one (.ref 2 []))), (5, .pl (.one (.ref 3 []))), (6, .pl (.one (.v (.sc (.int .i64 v))))), (7, .pl (.one (.ref 4 []))), (8, .pl (.one (.ref 5 []))), (33, .pl (.one (.v (.sc (.bool b.1)))))], ob := [(0, .box true [.list false 1 (List.map (rK .u8) b.2.1), .sc (.int .i64 b.2.2.1), .sc (.int .i64 b.2.2.2)]), (2, .box true [.list true 1 (List.map (rL true 1 (rK .i64)) []), .list true 4 (List.map (r_T_impl_Body true) [])]), (3, .box true [.list true 1 (List.map (rL true 1 (rK .i64)) w_2), .list true 4 (List.map (r_T_impl_Body true) w_3)]), (4, .list true 1 (List.map (rK .i64) x20.1)), (5, .list true 1 (List.map rS x27.1))] }) ?_ ?_
          · simp only [List.take_succ_cons, List.take_zero]
            refine opsV_sp (fun hc' => ?_) (fun hc' => ?_)
            · replace gh1' := (ifF hc').symm.trans gh1'
              refine ops H' ?_
              obtain ⟨x32, hy', gh1'⟩ := Option.bind_eq_some_iff.1 gh1'
              refine callGD H' (fun _ => [0]) (W_spec_l01Once _ _ _ hy') ?_
              refine ops H' ?_
              obtain rfl := Option.some.inj gh1'
              refine opsV_nil ?_
              exact ⟨rfl, shd [0, 1, 4, 5, 6, 7, 8, 33] [(0, 0), (2, 2), (3, 3), (4, 4), (5, 5)] 6 rfl⟩
            · replace gh1' := (ifT hc').symm.trans gh1'
              refine ops H' ?_
              obtain rfl := Option.some.inj gh1'
              refine opsV_nil ?_
              exact ⟨rfl, shd [0, 1, 4, 5, 6, 7, 8, 33] [(0, 0), (2, 2), (3, 3), (4, 4), (5, 5)] 6 rfl⟩
          · rintro e' rfl
            simp only [List.drop_succ_cons, List.drop_zero]
            refine opsN ?_
            refine wpV_split (fun hc' => ?_) (fun hc' => ?_)
            · replace h1' := (ifT hc').symm.trans h1'
              refine wpV_region ?_
              refine ops H' ?_
              obtain ⟨x35, hy', h1'⟩ := Option.bind_eq_some_iff.1 h1'
              refine callGD H' (fun _ => [0]) (W_spec_l03Lines _ _ _ hy') ?_
              refine ops H' ?_
              refine opsN ?_
              exact shd [0, 1, 4, 5, 6, 7, 8] [(0, 0), (2, 2), (3, 3), (4, 4), (6, 5)] 6 ⟨_, _, _, _, h1', rfl⟩
            · replace h1' := (ifF hc').symm.trans h1'
              refine skipN ?_
              exact shd [0, 1, 4, 5, 6, 7, 8] [(0, 0), (2, 2), (3, 3), (4, 4), (5, 5)] 6 ⟨_, _, _, _, h1', rfl⟩
        · rintro e' ⟨c_7, c_8, c_9, lines, h1', rfl⟩
          unfold spec_l06Right_j2 at h1'
          refine wpV_seqJ (fun e' => ∃ lines_1, spec_l06Right_j3 v w_2 w_3 x20 c_7 c_8 c_9 lines_1 = some y1' ∧ e' = { N := 53, np := 2, nx := 6, sl := [(0, .pl (.one (.ref 0 []))), (1, .pl (.one (.v (.sc (.int .i64 n))))), (4, .pl (.one (.ref 2 []))), (5, .pl (.one (.ref 3 []))), (6, .pl (.one (.v (.sc (.int .i64 v))))), (7, .pl (.one (.ref 4 []))), (8, .pl (.one (.ref 5 [])))], ob := [(0, .box true [.list false 1 (List.map (rK .u8) c_7), .sc (.int .i64 c_8), .sc (.int .i64 c_9)]), (2, .box true [.list true 1 (List.map (rL true 1 (rK .i64)) []), .list true 4 (List.map (r_T_impl_Body true) [])]), (3, .box true [.list true 1 (List.map (rL true 1 (rK .i64)) w_2), .list true 4 (List.map (r_T_impl_Body true) w_3)]), (4, .list true 1 (List.map (rK .i64) x20.1)), (5, .list true 1 (List.map rS lines_1))] }) ?_ ?_
          · refine wpV_seq1 ?_
            refine wpV_region ?_
            refine ops H' ?_
            refine opsN ?_
            refine wpV_split (fun hc' => ?_) (fun hc' => ?_)
            · replace h1' := (ifT hc').symm.trans h1'
              refine wpV_region ?_
              refine ops H' ?_
              obtain ⟨x40, hv', h1'⟩ := Option.bind_eq_some_iff.1 h1'
              have H' := And.intro (cutH_f hv') H'
              refine opsV_cutO H' ?_
              refine ops H' ?_
              refine opsN ?_
              exact shd [0, 1, 4, 5, 6, 7, 8] [(0, 0), (2, 2), (3, 3), (4, 4), (6, 5)] 6 ⟨_, h1', rfl⟩
            · replace h1' := (ifF hc').symm.trans h1'
              refine skipN ?_
              exact shd [0, 1, 4, 5, 6, 7, 8] [(0, 0), (2, 2), (3, 3), (4, 4), (5, 5)] 6 ⟨_, h1', rfl⟩
          · rintro e' ⟨lines_1, h1', rfl⟩
            unfold spec_l06Right_j3 at h1'
            refine wpV_seq1 ?_
            refine wpV_region ?_
            refine ops H' ?_
            obtain ⟨x45, hy', h1'⟩ := Option.bind_eq_some_iff.1 h1'
            refine callG H' (fun _ => []) (W_spec_l06Add _ _ _ _ hy') ?_
            refine ops H' ?_
            refine opsN ?_
            refine wpV_seq1 ?_
            refine wpV_region ?_
            refine ops H' ?_
            refine opsN ?_
            refine wpV_split (fun hc' => ?_) (fun hc' => ?_)
            · replace h1' := (ifT hc').symm.trans h1'
              refine wpV_region ?_
              refine ops H' ?_
              refine opsN ?_
              refine wpV_region ?_
              refine ops H' ?_
              refine opsN ?_
              obtain rfl := Option.some.inj h1'
              exact shd [0, 1, 4, 5, 6] [(0, 0), (2, 2), (3, 3)] 4 ⟨_, rfl, _, _, _, _, _, _, rfl, rfl⟩
            · replace h1' := (ifF hc').symm.trans h1'
              refine skipN ?_
              refine wpV_region ?_
              refine ops H' ?_
              refine opsN ?_
              obtain rfl := Option.some.inj h1'
              exact shd [0, 1, 4, 5, 6] [(0, 0), (2, 2), (3, 3)] 4 ⟨_, rfl, _, _, _, _, _, _, rfl, rfl⟩
    · replace h1' := (ifF hc').symm.trans h1'
      refine exitN ?_
      obtain rfl := Option.some.inj h1'
      refine ⟨_, rfl, fun hr' => ?_⟩
      subst hr'
      exact shd [4, 5] [(0, 0), (2, 2), (3, 3)] 4 ⟨_, _, _, _, _, h0', rfl⟩
  · rintro e' ⟨c_1, c_2, c_3, w, w_1, h0', rfl⟩
    unfold spec_l06Right_j1 at h0'
    refine wpV_seq1 ?_
    refine wpV_region ?_
    refine ops H' ?_
    refine opsN ?_
    refine retN ?_
    obtain rfl := Option.some.inj h0'
    exact outC H' rfl rfl
theorem W_spec_DrawPair (code : List Int) (r' : T_impl_Weave × Int × Int) (h0' : spec_DrawPair code = some r') : Fn X 23 [.one (.list false 1 (List.map (rK .u8) code))] [.agg [.list true 1 (List.map (rL true 1 (rK .i64)) r'.1.Parents), .list true 4 (List.map (r_T_impl_Body true) r'.1.Bodies)], .one (.sc (.int .i64 r'.2.1)), .one (.sc (.int .i64 r'.2.2))] [] := by
  have H' := And.intro t3 (And.intro t38 (And.intro t41 (And.intro R_Li64 (And.intro R_T_impl_Body (And.intro R_i64 (R_u8))))))
  unfold spec_DrawPair at h0'
  refine Fn.start (fn := f23) (N := 29) (res := [.cell 2 41, .tmp 3, .tmp 4]) rfl rfl rfl rfl rfl (by simp) ?_
  refine enterG H' ?_
  refine wpV_seq1 ?_
  refine wpV_region ?_
  refine ops H' ?_
  refine opsN ?_
  refine wpV_seq1 ?_
  refine wpV_region ?_
  refine ops H' ?_
  obtain ⟨x9, hy', h0'⟩ := Option.bind_eq_some_iff.1 h0'
  refine callGD H' (fun _ => []) (W_spec_l01New _ _ hy') ?_
  refine ops H' ?_
  refine opsN ?_
  refine wpV_seq1 ?_
  refine wpV_region ?_
  refine ops H' ?_
  obtain ⟨x13, hy', h0'⟩ := Option.bind_eq_some_iff.1 h0'
  refine callG H' (fun _ => []) (W_spec_l06Size _ _ hy') ?_
  obtain ⟨x14, hy', h0'⟩ := Option.bind_eq_some_iff.1 h0'
  refine callGD H' (fun _ => [0]) (W_spec_l01Below _ _ _ hy') ?_
  refine ops H' ?_
  obtain ⟨x16, hy', h0'⟩ := Option.bind_eq_some_iff.1 h0'
  refine callGD H' (fun _ => [0]) (W_spec_l06Right _ _ _ hy') ?_
  refine ops H' ?_
  refine opsN ?_
  refine wpV_seq1 ?_
  refine wpV_region ?_
  refine ops H' ?_
  obtain ⟨x21, hy', h0'⟩ := Option.bind_eq_some_iff.1 h0'
  refine callGD H' (fun _ => [0]) (W_spec_l01Below _ _ _ hy') ?_
  refine ops H' ?_
  refine opsN ?_
  refine wpV_seq1 ?_
  obtain ⟨x28, hy_x28, h0'⟩ := Option.bind_eq_some_iff.1 h0'
  refine wpV_J (fun e' => e' = { N := 29, np := 1, nx := 2, sl := [(2, .pl (.one (.ref 1 []))), (3, .pl (.one (.v (.sc (.int .i64 x21.1))))), (4, .pl (.one (.v (.sc (.int .i64 x28.1)))))], ob := [(1, .box true [.list true 1 (List.map (rL true 1 (rK .i64)) x16.1.Parents), .list true 4 (List.map (r_T_impl_Body true) x16.1.Bodies)])] }) ?_ ?_
  · refine regAnyF [(5, 27, .pl (.one (.v (.sc (.int .i64 (x16.1.Parents.length : Int))))))] ?_
    refine (?_ : anyF X ?ops4_0_0 _ _ ?P4_0_0 _)
    have d4_0_0_0' : anyF X ?ops4_0_0 [0, 1, 2, 3, 4, 5, 6, 7, 8, 9] [] ?P4_0_0 { N := 29, np := 1, nx := 2, sl := [(2, .pl (.one (.ref 1 []))), (3, .pl (.one (.v (.sc (.int .i64 x21.1))))), (4, .pl (.one (.v (.sc (.int .i64 x28.1)))))], ob := [(1, .box true [.list true 1 (List.map (rL true 1 (rK .i64)) x16.1.Parents), .list true 4 (List.map (r_T_impl_Body true) x16.1.Bodies)])] } := by
      refine fend (e2 := { N := 29, np := 1, nx := 2, sl := [(2, .pl (.one (.ref 1 []))), (3, .pl (.one (.v (.sc (.int .i64 x21.1))))), (4, .pl (.one (.v (.sc (.int .i64 x28.1)))))], ob := [(1, .box true [.list true 1 (List.map (rL true 1 (rK .i64)) x16.1.Parents), .list true 4 (List.map (r_T_impl_Body true) x16.1.Bodies)])] }) [] [] [] [] trivial ⟨rfl, shd [2, 3, 4] [(1, 1)] 2 rfl⟩
    have d4_0_0_1' : anyF X ?ops4_0_0 [0, 1, 2, 3, 4, 5, 6, 7, 8] [] ?P4_0_0 { N := 29, np := 1, nx := 2, sl := [(2, .pl (.one (.ref 1 []))), (3, .pl (.one (.v (.sc (.int .i64 x21.1))))), (28, .pl (.one (.v (.sc (.int .i64 x28.1)))))], ob := [(1, .box true [.list true 1 (List.map (rL true 1 (rK .i64)) x16.1.Parents), .list true 4 (List.map (r_T_impl_Body true) x16.1.Bodies)])] } := by
      refine fnode [] [.m 9 [] [0, 1, 2, 3, 4, 5, 6, 7, 8, 9] []] [] [(9, false, [], [0, 1, 2, 3, 4, 5, 6, 7, 8, 9])] ⟨?_, trivial⟩
      · refine obM ?_
        refine ops H' ?_
        refine opsV_nil ⟨rfl, .inl ⟨rfl, ?_⟩⟩
        exact anyFShd [2, 3, 4] [(1, 1)] 2 d4_0_0_0'
    have d4_0_0_2' : anyF X ?ops4_0_0 [0, 1, 2, 3, 4, 5, 6, 7] [] ?P4_0_0 { N := 29, np := 1, nx := 2, sl := [(2, .pl (.one (.ref 1 []))), (23, .pl (.one (.v (.sc (.int .i64 x21.1))))), (28, .pl (.one (.v (.sc (.int .i64 x28.1)))))], ob := [(1, .box true [.list true 1 (List.map (rL true 1 (rK .i64)) x16.1.Parents), .list true 4 (List.map (r_T_impl_Body true) x16.1.Bodies)])] } := by
      refine fnode [] [.m 8 [] [0, 1, 2, 3, 4, 5, 6, 7, 8] []] [] [(8, false, [], [0, 1, 2, 3, 4, 5, 6, 7, 8])] ⟨?_, trivial⟩
      · refine obM ?_
        refine ops H' ?_
        refine opsV_nil ⟨rfl, .inl ⟨rfl, ?_⟩⟩
        exact anyFShd [2, 3, 28] [(1, 1)] 2 d4_0_0_1'
    have d4_0_0_3' : anyF X ?ops4_0_0 [0, 1, 2, 3, 4, 5, 6] [] ?P4_0_0 { N := 29, np := 1, nx := 3, sl := [(2, .pl (.one (.ref 1 []))), (22, .pl (.agg [.ref 2 [(0, 0, 0)], .ref 2 [(0, 0, 1)]])), (23, .pl (.one (.v (.sc (.int .i64 x21.1))))), (28, .pl (.one (.v (.sc (.int .i64 x28.1)))))], ob := [(1, .box true [.list true 1 (List.map (rL true 1 (rK .i64)) []), .list true 4 (List.map (r_T_impl_Body true) [])]), (2, .box true [.list true 1 (List.map (rL true 1 (rK .i64)) x16.1.Parents), .list true 4 (List.map (r_T_impl_Body true) x16.1.Bodies)])] } := by
      refine fnode [] [.m 7 [] [0, 1, 2, 3, 4, 5, 6, 7] []] [] [(7, false, [], [0, 1, 2, 3, 4, 5, 6, 7])] ⟨?_, trivial⟩
      · refine obM ?_
        refine ops H' ?_
        refine opsV_nil ⟨rfl, .inl ⟨rfl, ?_⟩⟩
        exact anyFShd [2, 23, 28] [(1, 1)] 2 d4_0_0_2'
    have d4_0_0_4' : anyF X ?ops4_0_0 [0, 1, 2, 3, 4] [(5, 27, .pl (.one (.v (.sc (.int .i64 (x16.1.Parents.length : Int))))))] ?P4_0_0 { N := 29, np := 1, nx := 4, sl := [(2, .pl (.one (.ref 1 []))), (22, .pl (.agg [.ref 2 [(0, 0, 0)], .ref 2 [(0, 0, 1)]])), (23, .pl (.one (.v (.sc (.int .i64 x21.1))))), (24, .pl (.one (.ref 3 []))), (26, .pl (.one (.ref 2 [(0, 0, 0)])))], ob := [(1, .box true [.list true 1 (List.map (rL true 1 (rK .i64)) []), .list true 4 (List.map (r_T_impl_Body true) [])]), (2, .box true [.list true 1 (List.map (rL true 1 (rK .i64)) x16.1.Parents), .list true 4 (List.map (r_T_impl_Body true) x16.1.Bodies)]), (3, .box true [.list false 1 (List.map (rK .u8) x21.2.b), .sc (.int .i64 x21.2.i), .sc (.int .i64 x21.2.h)])] } := by
      refine fnode [5] [.q 5 27 (.pl (.one (.v (.sc (.int .i64 (x16.1.Parents.length : Int)))))) [], .m 6 [5] [0, 1, 2, 3, 4, 5, 6] []] [(5, 27)] [(5, true, [], []), (6, false, [5], [0, 1, 2, 3, 4, 5, 6])] ⟨?_, ?_, trivial⟩
      · refine obQ 0 ?_
        refine ops H' ?_
        refine opsV_nil ⟨rfl, shd [27, 2, 22, 23, 24, 26] [(1, 1), (2, 2), (3, 3)] 4 rfl⟩
      · refine obM ?_
        refine callGD H' (fun _ => [0]) (W_spec_l01Below _ _ _ hy_x28) ?_
        refine opsV_nil ⟨rfl, .inl ⟨rfl, ?_⟩⟩
        exact anyFShd [2, 22, 23, 28] [(1, 1), (2, 2)] 3 d4_0_0_3'
    have d4_0_0_5' : anyF X ?ops4_0_0 [0, 1, 2, 3] [(5, 27, .pl (.one (.v (.sc (.int .i64 (x16.1.Parents.length : Int))))))] ?P4_0_0 { N := 29, np := 1, nx := 4, sl := [(2, .pl (.one (.ref 1 []))), (22, .pl (.agg [.ref 2 [(0, 0, 0)], .ref 2 [(0, 0, 1)]])), (23, .pl (.one (.v (.sc (.int .i64 x21.1))))), (24, .pl (.one (.ref 3 []))), (25, .pl (.one (.addr 2 [] 0 0 0)))], ob := [(1, .box true [.list true 1 (List.map (rL true 1 (rK .i64)) []), .list true 4 (List.map (r_T_impl_Body true) [])]), (2, .box true [.list true 1 (List.map (rL true 1 (rK .i64)) x16.1.Parents), .list true 4 (List.map (r_T_impl_Body true) x16.1.Bodies)]), (3, .box true [.list false 1 (List.map (rK .u8) x21.2.b), .sc (.int .i64 x21.2.i), .sc (.int .i64 x21.2.h)])] } := by
      refine fnode [] [.m 4 [] [0, 1, 2, 3, 4] [(5, 27, .pl (.one (.v (.sc (.int .i64 (x16.1.Parents.length : Int))))))]] [(5, 27)] [(4, false, [], [0, 1, 2, 3, 4])] ⟨?_, trivial⟩
      · refine obM ?_
        refine ops H' ?_
        refine opsV_nil ⟨rfl, .inl ⟨rfl, ?_⟩⟩
        exact anyFShd [2, 22, 23, 24, 26] [(1, 1), (2, 2), (3, 3)] 4 d4_0_0_4'
    have d4_0_0_6' : anyF X ?ops4_0_0 [1, 2, 3, 4, 5, 6] [] ?P4_0_0 { N := 29, np := 1, nx := 3, sl := [(2, .pl (.one (.ref 1 []))), (6, .pl (.one (.ref 2 []))), (23, .pl (.one (.v (.sc (.int .i64 x21.1))))), (28, .pl (.one (.v (.sc (.int .i64 x28.1)))))], ob := [(1, .box true [.list true 1 (List.map (rL true 1 (rK .i64)) []), .list true 4 (List.map (r_T_impl_Body true) [])]), (2, .box true [.list true 1 (List.map (rL true 1 (rK .i64)) x16.1.Parents), .list true 4 (List.map (r_T_impl_Body true) x16.1.Bodies)])] } := by
      refine fnode [] [.m 0 [] [0, 1, 2, 3, 4, 5, 6] []] [] [(0, false, [], [0, 1, 2, 3, 4, 5, 6])] ⟨?_, trivial⟩
      · refine obM ?_
        refine ops H' ?_
        refine opsV_nil ⟨rfl, .inl ⟨rfl, ?_⟩⟩
        exact anyFShd [2, 22, 23, 28] [(1, 1), (2, 2)] 3 d4_0_0_3'
    have d4_0_0_7' : anyF X ?ops4_0_0 [1, 2, 3, 4] [(5, 27, .pl (.one (.v (.sc (.int .i64 (x16.1.Parents.length : Int))))))] ?P4_0_0 { N := 29, np := 1, nx := 4, sl := [(2, .pl (.one (.ref 1 []))), (6, .pl (.one (.ref 2 []))), (23, .pl (.one (.v (.sc (.int .i64 x21.1))))), (24, .pl (.one (.ref 3 []))), (26, .pl (.one (.ref 2 [(0, 0, 0)])))], ob := [(1, .box true [.list true 1 (List.map (rL true 1 (rK .i64)) []), .list true 4 (List.map (r_T_impl_Body true) [])]), (2, .box true [.list true 1 (List.map (rL true 1 (rK .i64)) x16.1.Parents), .list true 4 (List.map (r_T_impl_Body true) x16.1.Bodies)]), (3, .box true [.list false 1 (List.map (rK .u8) x21.2.b), .sc (.int .i64 x21.2.i), .sc (.int .i64 x21.2.h)])] } := by
      refine fnode [5] [.q 5 27 (.pl (.one (.v (.sc (.int .i64 (x16.1.Parents.length : Int)))))) [], .m 0 [] [0, 1, 2, 3, 4] [(5, 27, .pl (.one (.v (.sc (.int .i64 (x16.1.Parents.length : Int))))))], .m 6 [5] [1, 2, 3, 4, 5, 6] []] [(5, 27)] [(5, true, [], []), (0, false, [], [0, 1, 2, 3, 4]), (6, false, [5], [1, 2, 3, 4, 5, 6])] ⟨?_, ?_, ?_, trivial⟩
      · refine obQ 0 ?_
        refine ops H' ?_
        refine opsV_nil ⟨rfl, shd [27, 2, 6, 23, 24, 26] [(1, 1), (2, 2), (3, 3)] 4 rfl⟩
      · refine obM ?_
        refine ops H' ?_
        refine opsV_nil ⟨rfl, .inl ⟨rfl, ?_⟩⟩
        exact anyFShd [2, 22, 23, 24, 26] [(1, 1), (2, 2), (3, 3)] 4 d4_0_0_4'
      · refine obM ?_
        refine callGD H' (fun _ => [0]) (W_spec_l01Below _ _ _ hy_x28) ?_
        refine opsV_nil ⟨rfl, .inl ⟨rfl, ?_⟩⟩
        exact anyFShd [2, 6, 23, 28] [(1, 1), (2, 2)] 3 d4_0_0_6'
    have d4_0_0_8' : anyF X ?ops4_0_0 [1, 2, 3] [(5, 27, .pl (.one (.v (.sc (.int .i64 (x16.1.Parents.length : Int))))))] ?P4_0_0 { N := 29, np := 1, nx := 4, sl := [(2, .pl (.one (.ref 1 []))), (6, .pl (.one (.ref 2 []))), (23, .pl (.one (.v (.sc (.int .i64 x21.1))))), (24, .pl (.one (.ref 3 []))), (25, .pl (.one (.addr 2 [] 0 0 0)))], ob := [(1, .box true [.list true 1 (List.map (rL true 1 (rK .i64)) []), .list true 4 (List.map (r_T_impl_Body true) [])]), (2, .box true [.list true 1 (List.map (rL true 1 (rK .i64)) x16.1.Parents), .list true 4 (List.map (r_T_impl_Body true) x16.1.Bodies)]), (3, .box true [.list false 1 (List.map (rK .u8) x21.2.b), .sc (.int .i64 x21.2.i), .sc (.int .i64 x21.2.h)])] } := by
      refine fnode [] [.m 0 [] [0, 1, 2, 3] [(5, 27, .pl (.one (.v (.sc (.int .i64 (x16.1.Parents.length : Int))))))], .m 4 [] [1, 2, 3, 4] [(5, 27, .pl (.one (.v (.sc (.int .i64 (x16.1.Parents.length : Int))))))]] [(5, 27)] [(0, false, [], [0, 1, 2, 3]), (4, false, [], [1, 2, 3, 4])] ⟨?_, ?_, trivial⟩
      · refine obM ?_
        refine ops H' ?_
        refine opsV_nil ⟨rfl, .inl ⟨rfl, ?_⟩⟩
        exact anyFShd [2, 22, 23, 24, 25] [(1, 1), (2, 2), (3, 3)] 4 d4_0_0_5'
      · refine obM ?_
        refine ops H' ?_
        refine opsV_nil ⟨rfl, .inl ⟨rfl, ?_⟩⟩
        exact anyFShd [2, 6, 23, 24, 26] [(1, 1), (2, 2), (3, 3)] 4 d4_0_0_7'
    refine fpure H' 1 [1] [(5, 27)] ?_
    refine fpure H' 2 [1, 2] [(5, 27)] ?_
    refine fpure H' 3 [1, 2, 3] [(5, 27)] ?_
    exact anyFShd [2, 6, 23, 24, 25] [(1, 1), (7, 2), (2, 3)] 4 d4_0_0_8'
  · rintro e' rfl
    refine contN ?_
    refine retN ?_
    obtain rfl := Option.some.inj h0'
    exact outC H' rfl rfl
theorem W_spec_GraphOk (parents : List (List Int)) (r' : Bool) (h0' : spec_GraphOk parents = some r') : Fn X 170 [.one (.list false 1 (List.map (rL false 1 (rK .i64)) parents))] [.one (.sc (.bool r'))] [] := by
  have H' := And.intro t3 (And.intro t38 (And.intro t44 (And.intro R_Li64 (R_i64))))
  unfold spec_GraphOk at h0'
  refine Fn.start (fn := f170) (N := 28) (res := [.tmp 2]) rfl rfl rfl rfl rfl (by simp) ?_
  refine enterG H' ?_
  refine wpV_seq1 ?_
  refine wpV_region ?_
  refine ops H' ?_
  refine opsN ?_
  refine wpV_seq1 ?_
  refine wpV_seq1 ?_
  refine wpV_region ?_
  refine ops H' ?_
  refine opsN ?_
  refine wpV_split (fun hc' => ?_) (fun hc' => ?_)
  · replace h0' := (ifT hc').symm.trans h0'
    refine wpV_seq1 ?_
    refine wpV_region ?_
    refine ops H' ?_
    refine opsN ?_
    refine retN ?_
    obtain rfl := Option.some.inj h0'
    exact outG H' rfl rfl
  · replace h0' := (ifF hc').symm.trans h0'
    refine skipN ?_
    refine wpV_seqJ (fun e' => spec_GraphOk_j1 = some r' ∧ e' = { N := 28, np := 1, nx := 1, sl := [], ob := [] }) ?_ ?_
    · refine wpV_seq1 ?_
      refine wpV_region ?_
      refine ops H' ?_
      refine opsN ?_
      obtain ⟨p, hl', h0'⟩ := Option.bind_eq_some_iff.1 h0'
      refine wpV_block ?_
      refine wpV_loopM (fun v e' => e' = { N := 28, np := 1, nx := 1, sl := [(0, .pl (.one (.v (.list false 1 (List.map (rL false 1 (rK .i64)) parents))))), (3, .pl (.one (.v (.sc (.int .i64 v)))))], ob := [] }) hl' (shd [0, 3] [] 1 rfl) ?_
      rintro v y1' e' h1' rfl
      replace h1' : spec_GraphOk_l1 parents v = some y1' := h1'
      unfold spec_GraphOk_l1 at h1'
      refine wpV_seq1 ?_
      refine wpV_seq1 ?_
      refine wpV_region ?_
      refine ops H' ?_
      refine opsN ?_
      refine wpV_split (fun hc' => ?_) (fun hc' => ?_)
      · replace h1' := (ifT hc').symm.trans h1'
        refine skipN ?_
        refine wpV_seq1 ?_
        refine wpV_block ?_
        refine wpV_seq1 ?_
        refine wpV_region ?_
        obtain ⟨x, hv', h1'⟩ := Option.bind_eq_some_iff.1 h1'
        have H' := And.intro (geti_f hv') H'
        refine ops H' ?_
        obtain ⟨b, gh1', h1'⟩ := Option.bind_eq_some_iff.1 h1'
        refine opsV_cut 8 (fun e' => e' = { N := 28, np := 1, nx := 1, sl := [(0, .pl (.one (.v (.list false 1 (List.map (rL false 1 (rK .i64)) parents))))), (3, .pl (.one (.v (.sc (.int .i64 v))))), (27, .pl (.one (.v (.sc (.bool b)))))], ob := [] }) ?_ ?_
        · simp only [List.take_succ_cons, List.take_zero]
          refine opsV_sp (fun hc' => ?_) (fun hc' => ?_)
          · replace gh1' := (ifF hc').symm.trans gh1'
            refine ops H' ?_
            obtain ⟨x25, hy', gh1'⟩ := Option.bind_eq_some_iff.1 gh1'
            refine callG H' (fun _ => []) (W_spec_l05Rise _ _ _ hy') ?_
            refine ops H' ?_
            obtain rfl := Option.some.inj gh1'
            refine opsV_nil ?_
            exact ⟨rfl, shd [0, 3, 27] [] 1 rfl⟩
          · replace gh1' := (ifT hc').symm.trans gh1'
            refine ops H' ?_
            obtain rfl := Option.some.inj gh1'
            refine opsV_nil ?_
            exact ⟨rfl, shd [0, 3, 27] [] 1 rfl⟩
        · rintro e' rfl
          simp only [List.drop_succ_cons, List.drop_zero]
          refine opsN ?_
          refine wpV_split (fun hc' => ?_) (fun hc' => ?_)
          · replace h1' := (ifT hc').symm.trans h1'
            refine wpV_seq1 ?_
            refine wpV_region ?_
            refine ops H' ?_
            refine opsN ?_
            refine retN ?_
            obtain rfl := Option.some.inj h1'
            refine ⟨_, rfl, fun hr' => ?_⟩
            subst hr'
            obtain rfl := Option.some.inj h0'
            exact outG H' rfl rfl
          · replace h1' := (ifF hc').symm.trans h1'
            refine skipN ?_
            refine wpV_region ?_
            refine ops H' ?_
            refine opsN ?_
            obtain rfl := Option.some.inj h1'
            exact shd [0, 3] [] 1 ⟨_, rfl, rfl⟩
      · replace h1' := (ifF hc').symm.trans h1'
        refine exitN ?_
        obtain rfl := Option.some.inj h1'
        refine ⟨_, rfl, fun hr' => ?_⟩
        subst hr'
        exact shd [] [] 1 ⟨h0', rfl⟩
    · rintro e' ⟨h0', rfl⟩
      unfold spec_GraphOk_j1 at h0'
      refine wpV_seq1 ?_
      refine wpV_region ?_
      refine ops H' ?_
      refine opsN ?_
      refine retN ?_
      obtain rfl := Option.some.inj h0'
      exact outG H' rfl rfl
theorem W_spec_l06Closure (w : T_impl_Weave) (v : Int) (r' : (List Bool)) (h0' : spec_l06Closure w v = some r') : Fn X 128 [.agg [.list false 1 (List.map (rL false 1 (rK .i64)) w.Parents), .list false 4 (List.map (r_T_impl_Body false) w.Bodies)], .one (.sc (.int .i64 v))] [.one (.list true 1 (List.map rB r'))] [] := by
  have H' := And.intro t3 (And.intro t38 (And.intro t41 (And.intro t44 (And.intro R_Li64 (And.intro R_T_impl_Body (And.intro R_b (R_i64)))))))
  unfold spec_l06Closure at h0'
  refine Fn.start (fn := f128) (N := 10) (res := [.tmp 4]) rfl rfl rfl rfl rfl (by simp) ?_
  refine enterG H' ?_
  refine wpV_seq1 ?_
  refine wpV_region ?_
  refine ops H' ?_
  refine opsN ?_
  refine wpV_seq1 ?_
  refine wpV_region ?_
  refine ops H' ?_
  obtain ⟨x9, hy', h0'⟩ := Option.bind_eq_some_iff.1 h0'
  refine callG H' (fun _ => []) (W_spec_l05Set _ _ _ hy') ?_
  refine ops H' ?_
  refine opsN ?_
  refine retN ?_
  obtain rfl := Option.some.inj h0'
  exact outG H' rfl rfl
end Go.TV.KFnPicks
