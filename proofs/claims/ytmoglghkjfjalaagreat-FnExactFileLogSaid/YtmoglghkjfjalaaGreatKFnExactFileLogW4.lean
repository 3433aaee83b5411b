/- Walks. -/
import Derived.Test.YtmoglghkjfjalaaGreatKFnExactFileLogE
import Derived.Test.YtmoglghkjfjalaaGreatKFnExactFileLogW3
set_option linter.unusedVariables false
set_option linter.unusedSimpArgs false
set_option maxHeartbeats 8000000
set_option maxRecDepth 100000
namespace Go.TV.KFnExactFileLog
attribute [local irreducible] anyV wpV opsV Does thenV blockV RetL quV seqV
open Go.Proofs.Tryz Go.TV.F
theorem W_impl_WeaveOk (w:T_impl_Weave) (r':Bool) (h0':impl_WeaveOk w=some r'):Fn X 77 [.agg [.list false 1 (List.map (rL false 1 (rK .i64)) w.Parents),.list false 4 (List.map (zF false) w.Bodies)]] [.one (.sc (.bool r'))] []:=by
 have H':=And.intro t3 (And.intro t33 (And.intro t34 (And.intro t36 (And.intro qT (And.intro qL (And.intro qK (R_u64)))))))
 unfold impl_WeaveOk at h0'
 refine Fn.start (fn:=f77) (N:=19) (res:=[.tmp 2]) rfl rfl rfl rfl rfl (by simp) ?_
 refine zU H' ?_
 refine zB ?_
 refine zA ?_
 refine ops H' ?_
 refine zE ?_
 refine zB ?_
 obtain ⟨b,gh0_1_0,h0'⟩:=zbi h0'
 obtain ⟨b_1,gh1_1_0,h0'⟩:=zbi h0'
 refine wpV_J (fun e'=>e'=⟨19,2,2,[(2,.pl (.one (.v (.sc (.bool b_1)))))],[]⟩) ?_ ?_
 ·rcases Bool.eq_false_or_eq_true (decide ((w.Bodies.length:Int)≤300)) with hc4_1_0 | hc4_1_0
  ·replace gh0_1_0:=(ifT hc4_1_0).symm.trans gh0_1_0
   obtain ⟨x10,hy_x10,gh0_1_0⟩:=zbi gh0_1_0
   obtain rfl:=zso gh0_1_0
   rcases Bool.eq_false_or_eq_true x10 with hc9_1_0 | hc9_1_0
   ·replace gh1_1_0:=(ifT hc9_1_0).symm.trans gh1_1_0
    obtain ⟨x16,hy_x16,gh1_1_0⟩:=zbi gh1_1_0
    obtain ⟨x17,hy_x17,gh1_1_0⟩:=zbi gh1_1_0
    obtain rfl:=zso gh1_1_0
    refine regAnyF [(1,4,.pl (.one (.v (.list false 4 (List.map (zF false) w.Bodies))))),(2,5,.pl (.one (.v (.sc (.int .i64 (w.Bodies.length:Int)))))),(3,6,.pl (.one (.v (.sc (.bool (decide ((w.Bodies.length:Int)≤300))))))),(4,7,.pl (.one (.v (.sc (.bool (decide ((w.Bodies.length:Int)≤300))))))),(6,9,.pl (.one (.v (.list false 1 (List.map (rL false 1 (rK .i64)) w.Parents))))),(7,10,.pl (.one (.v (.sc (.bool x10))))),(8,11,.pl (.one (.v (.sc (.bool x10))))),(9,12,.pl (.one (.v (.sc (.bool x10))))),(10,13,.pl (.agg [.v (.list false 1 (List.map (rL false 1 (rK .i64)) w.Parents)),.v (.list false 4 (List.map (zF false) w.Bodies))])),(12,15,.pl (.one (.v (.list false 1 (List.map (rL false 1 (rK .i64)) w.Parents))))),(14,17,.pl (.one (.v (.sc (.bool x17))))),(15,18,.pl (.one (.v (.sc (.bool x17)))))] ?_
    refine (?_:anyF X ?o0 _ _ ?P0 _)
    have d0':anyF X ?o0 [0,1,2,3,4,5,6,7,8,9,10,11,12,13,14,15,16] [] ?P0 ⟨19,2,2,[(2,.pl (.one (.v (.sc (.bool x17)))))],[]⟩:=by
     refine fend (e2:=⟨19,2,2,[(2,.pl (.one (.v (.sc (.bool x17)))))],[]⟩) [] [] [] [] trivial ⟨rfl,shd [2] [] 2 rfl⟩
    have d1':anyF X ?o0 [0,1,2,3,4,5,6,7,8,9,11,12,13] [(10,13,.pl (.agg [.v (.list false 1 (List.map (rL false 1 (rK .i64)) w.Parents)),.v (.list false 4 (List.map (zF false) w.Bodies))])),(14,17,.pl (.one (.v (.sc (.bool x17))))),(15,18,.pl (.one (.v (.sc (.bool x17)))))] ?P0 ⟨19,2,4,[(1,.pl (.one (.ref 2 []))),(12,.pl (.one (.v (.sc (.bool x10))))),(16,.pl (.one (.ref 3 [])))],[(2,.box true [.list false 1 (List.map (rL false 1 (rK .i64)) w.Parents),.list false 4 (List.map (zF false) w.Bodies)]),(3,.list true 1 (List.map (rK .u64) x16))]⟩:=by
     refine fnode [10,14,15] [.q 10 13 (.pl (.agg [.v (.list false 1 (List.map (rL false 1 (rK .i64)) w.Parents)),.v (.list false 4 (List.map (zF false) w.Bodies))])) [],.q 14 17 (.pl (.one (.v (.sc (.bool x17))))) [10],.q 15 18 (.pl (.one (.v (.sc (.bool x17))))) [14],.m 16 [10,14,15] [0,1,2,3,4,5,6,7,8,9,10,11,12,13,14,15,16] []] [(10,13),(14,17),(15,18)] [(10,true,[],[]),(14,true,[10],[]),(15,true,[14],[]),(16,false,[10,14,15],[0,1,2,3,4,5,6,7,8,9,10,11,12,13,14,15,16])] ⟨?_,?_,?_,?_,trivial⟩
     ·refine qB 0 ⟨19,2,4,[(1,.pl (.one (.ref 2 []))),(12,.pl (.one (.v (.sc (.bool x10))))),(16,.pl (.one (.ref 3 [])))],[(2,.box true [.list false 1 (List.map (rL false 1 (rK .i64)) w.Parents),.list false 4 (List.map (zF false) w.Bodies)]),(3,.list true 1 (List.map (rK .u64) x16))]⟩ ?_
      refine opsOn hc9_1_0 ?_
      refine ops H' ?_
      refine zG ⟨rfl,shd [13,1,12,16] [(2,2),(3,3)] 4 rfl⟩
     ·refine qB 1 ⟨19,2,4,[(13,.pl (.agg [.v (.list false 1 (List.map (rL false 1 (rK .i64)) w.Parents)),.v (.list false 4 (List.map (zF false) w.Bodies))])),(1,.pl (.one (.ref 2 []))),(12,.pl (.one (.v (.sc (.bool x10))))),(16,.pl (.one (.ref 3 [])))],[(2,.box true [.list false 1 (List.map (rL false 1 (rK .i64)) w.Parents),.list false 4 (List.map (zF false) w.Bodies)]),(3,.list true 1 (List.map (rK .u64) x16))]⟩ ?_
      refine opsOn hc9_1_0 ?_
      refine zR H' (fun _=>[]) (W_impl_bodiesOk _ _ _ hy_x17) ?_
      refine zG ⟨rfl,shd [17,1,12,16] [(2,2),(3,3)] 4 rfl⟩
     ·refine qB 2 ⟨19,2,4,[(17,.pl (.one (.v (.sc (.bool x17))))),(1,.pl (.one (.ref 2 []))),(12,.pl (.one (.v (.sc (.bool x10))))),(16,.pl (.one (.ref 3 [])))],[(2,.box true [.list false 1 (List.map (rL false 1 (rK .i64)) w.Parents),.list false 4 (List.map (zF false) w.Bodies)]),(3,.list true 1 (List.map (rK .u64) x16))]⟩ ?_
      refine opsPick H' hc9_1_0 ?_
      refine zG ⟨rfl,shd [18,1,12,16] [(2,2),(3,3)] 4 rfl⟩
     ·refine obMx ⟨19,2,4,[(13,.pl (.agg [.v (.list false 1 (List.map (rL false 1 (rK .i64)) w.Parents)),.v (.list false 4 (List.map (zF false) w.Bodies))])),(17,.pl (.one (.v (.sc (.bool x17))))),(18,.pl (.one (.v (.sc (.bool x17))))),(1,.pl (.one (.ref 2 []))),(12,.pl (.one (.v (.sc (.bool x10))))),(16,.pl (.one (.ref 3 [])))],[(2,.box true [.list false 1 (List.map (rL false 1 (rK .i64)) w.Parents),.list false 4 (List.map (zF false) w.Bodies)]),(3,.list true 1 (List.map (rK .u64) x16))]⟩ ?_
      refine ops H' ?_
      refine zG ⟨rfl,.inl ⟨rfl,?_⟩⟩
      exact qN [2] [] 2 d0'
    have d2':anyF X ?o0 [0,1,2,3,4,5,6,7,8,9,11] [(10,13,.pl (.agg [.v (.list false 1 (List.map (rL false 1 (rK .i64)) w.Parents)),.v (.list false 4 (List.map (zF false) w.Bodies))])),(12,15,.pl (.one (.v (.list false 1 (List.map (rL false 1 (rK .i64)) w.Parents))))),(14,17,.pl (.one (.v (.sc (.bool x17))))),(15,18,.pl (.one (.v (.sc (.bool x17)))))] ?P0 ⟨19,2,3,[(1,.pl (.one (.ref 2 []))),(12,.pl (.one (.v (.sc (.bool x10))))),(14,.pl (.one (.addr 2 [] 0 0 0)))],[(2,.box true [.list false 1 (List.map (rL false 1 (rK .i64)) w.Parents),.list false 4 (List.map (zF false) w.Bodies)])]⟩:=by
     refine fnode [10,12] [.q 10 13 (.pl (.agg [.v (.list false 1 (List.map (rL false 1 (rK .i64)) w.Parents)),.v (.list false 4 (List.map (zF false) w.Bodies))])) [],.q 12 15 (.pl (.one (.v (.list false 1 (List.map (rL false 1 (rK .i64)) w.Parents))))) [],.m 13 [12] [0,1,2,3,4,5,6,7,8,9,11,12,13] [(10,13,.pl (.agg [.v (.list false 1 (List.map (rL false 1 (rK .i64)) w.Parents)),.v (.list false 4 (List.map (zF false) w.Bodies))])),(14,17,.pl (.one (.v (.sc (.bool x17))))),(15,18,.pl (.one (.v (.sc (.bool x17)))))]] [(10,13),(12,15),(14,17),(15,18)] [(10,true,[],[]),(12,true,[],[]),(13,false,[12],[0,1,2,3,4,5,6,7,8,9,11,12,13])] ⟨?_,?_,?_,trivial⟩
     ·refine qB 0 ⟨19,2,3,[(1,.pl (.one (.ref 2 []))),(12,.pl (.one (.v (.sc (.bool x10))))),(14,.pl (.one (.addr 2 [] 0 0 0)))],[(2,.box true [.list false 1 (List.map (rL false 1 (rK .i64)) w.Parents),.list false 4 (List.map (zF false) w.Bodies)])]⟩ ?_
      refine opsOn hc9_1_0 ?_
      refine ops H' ?_
      refine zG ⟨rfl,shd [13,1,12,14] [(2,2)] 3 rfl⟩
     ·refine qB 1 ⟨19,2,3,[(1,.pl (.one (.ref 2 []))),(12,.pl (.one (.v (.sc (.bool x10))))),(14,.pl (.one (.addr 2 [] 0 0 0)))],[(2,.box true [.list false 1 (List.map (rL false 1 (rK .i64)) w.Parents),.list false 4 (List.map (zF false) w.Bodies)])]⟩ ?_
      refine opsOn hc9_1_0 ?_
      refine ops H' ?_
      refine zG ⟨rfl,shd [15,1,12,14] [(2,2)] 3 rfl⟩
     ·refine obMx ⟨19,2,3,[(15,.pl (.one (.v (.list false 1 (List.map (rL false 1 (rK .i64)) w.Parents))))),(1,.pl (.one (.ref 2 []))),(12,.pl (.one (.v (.sc (.bool x10))))),(14,.pl (.one (.addr 2 [] 0 0 0)))],[(2,.box true [.list false 1 (List.map (rL false 1 (rK .i64)) w.Parents),.list false 4 (List.map (zF false) w.Bodies)])]⟩ ?_
      refine opsOn hc9_1_0 ?_
      refine zR H' (fun _=>[]) (W_impl_closures _ _ hy_x16) ?_
      refine zG ⟨rfl,.inl ⟨rfl,?_⟩⟩
      exact qN [1,12,16] [(2,2),(3,3)] 4 d1'
    have d3':anyF X ?o0 [0,1,2,3,4,5] [(6,9,.pl (.one (.v (.list false 1 (List.map (rL false 1 (rK .i64)) w.Parents))))),(7,10,.pl (.one (.v (.sc (.bool x10))))),(8,11,.pl (.one (.v (.sc (.bool x10))))),(9,12,.pl (.one (.v (.sc (.bool x10))))),(10,13,.pl (.agg [.v (.list false 1 (List.map (rL false 1 (rK .i64)) w.Parents)),.v (.list false 4 (List.map (zF false) w.Bodies))])),(12,15,.pl (.one (.v (.list false 1 (List.map (rL false 1 (rK .i64)) w.Parents))))),(14,17,.pl (.one (.v (.sc (.bool x17))))),(15,18,.pl (.one (.v (.sc (.bool x17)))))] ?P0 ⟨19,2,3,[(1,.pl (.one (.ref 2 []))),(7,.pl (.one (.v (.sc (.bool (decide ((w.Bodies.length:Int)≤300))))))),(8,.pl (.one (.addr 2 [] 0 0 0)))],[(2,.box true [.list false 1 (List.map (rL false 1 (rK .i64)) w.Parents),.list false 4 (List.map (zF false) w.Bodies)])]⟩:=by
     refine fnode [6,7,8,9,10] [.q 6 9 (.pl (.one (.v (.list false 1 (List.map (rL false 1 (rK .i64)) w.Parents))))) [],.q 7 10 (.pl (.one (.v (.sc (.bool x10))))) [6],.q 8 11 (.pl (.one (.v (.sc (.bool x10))))) [7],.q 9 12 (.pl (.one (.v (.sc (.bool x10))))) [7,8],.q 10 13 (.pl (.agg [.v (.list false 1 (List.map (rL false 1 (rK .i64)) w.Parents)),.v (.list false 4 (List.map (zF false) w.Bodies))])) [9],.m 11 [9,7,8,6] [0,1,2,3,4,5,6,7,8,9,11] [(10,13,.pl (.agg [.v (.list false 1 (List.map (rL false 1 (rK .i64)) w.Parents)),.v (.list false 4 (List.map (zF false) w.Bodies))])),(12,15,.pl (.one (.v (.list false 1 (List.map (rL false 1 (rK .i64)) w.Parents))))),(14,17,.pl (.one (.v (.sc (.bool x17))))),(15,18,.pl (.one (.v (.sc (.bool x17)))))]] [(6,9),(7,10),(8,11),(9,12),(10,13),(12,15),(14,17),(15,18)] [(6,true,[],[]),(7,true,[6],[]),(8,true,[7],[]),(9,true,[7,8],[]),(10,true,[9],[]),(11,false,[9,7,8,6],[0,1,2,3,4,5,6,7,8,9,11])] ⟨?_,?_,?_,?_,?_,?_,trivial⟩
     ·refine qB 0 ⟨19,2,3,[(1,.pl (.one (.ref 2 []))),(7,.pl (.one (.v (.sc (.bool (decide ((w.Bodies.length:Int)≤300))))))),(8,.pl (.one (.addr 2 [] 0 0 0)))],[(2,.box true [.list false 1 (List.map (rL false 1 (rK .i64)) w.Parents),.list false 4 (List.map (zF false) w.Bodies)])]⟩ ?_
      refine opsOn hc4_1_0 ?_
      refine ops H' ?_
      refine zG ⟨rfl,shd [9,1,7,8] [(2,2)] 3 rfl⟩
     ·refine qB 1 ⟨19,2,3,[(9,.pl (.one (.v (.list false 1 (List.map (rL false 1 (rK .i64)) w.Parents))))),(1,.pl (.one (.ref 2 []))),(7,.pl (.one (.v (.sc (.bool (decide ((w.Bodies.length:Int)≤300))))))),(8,.pl (.one (.addr 2 [] 0 0 0)))],[(2,.box true [.list false 1 (List.map (rL false 1 (rK .i64)) w.Parents),.list false 4 (List.map (zF false) w.Bodies)])]⟩ ?_
      refine opsOn hc4_1_0 ?_
      refine zR H' (fun _=>[]) (W_impl_GraphOk _ _ hy_x10) ?_
      refine zG ⟨rfl,shd [10,1,7,8] [(2,2)] 3 rfl⟩
     ·refine qB 2 ⟨19,2,3,[(10,.pl (.one (.v (.sc (.bool x10))))),(1,.pl (.one (.ref 2 []))),(7,.pl (.one (.v (.sc (.bool (decide ((w.Bodies.length:Int)≤300))))))),(8,.pl (.one (.addr 2 [] 0 0 0)))],[(2,.box true [.list false 1 (List.map (rL false 1 (rK .i64)) w.Parents),.list false 4 (List.map (zF false) w.Bodies)])]⟩ ?_
      refine opsPick H' hc4_1_0 ?_
      refine zG ⟨rfl,shd [11,1,7,8] [(2,2)] 3 rfl⟩
     ·refine qB 3 ⟨19,2,3,[(10,.pl (.one (.v (.sc (.bool x10))))),(11,.pl (.one (.v (.sc (.bool x10))))),(1,.pl (.one (.ref 2 []))),(7,.pl (.one (.v (.sc (.bool (decide ((w.Bodies.length:Int)≤300))))))),(8,.pl (.one (.addr 2 [] 0 0 0)))],[(2,.box true [.list false 1 (List.map (rL false 1 (rK .i64)) w.Parents),.list false 4 (List.map (zF false) w.Bodies)])]⟩ ?_
      refine ops H' ?_
      refine zG ⟨rfl,shd [12,1,7,8] [(2,2)] 3 rfl⟩
     ·refine qB 4 ⟨19,2,3,[(12,.pl (.one (.v (.sc (.bool x10))))),(1,.pl (.one (.ref 2 []))),(7,.pl (.one (.v (.sc (.bool (decide ((w.Bodies.length:Int)≤300))))))),(8,.pl (.one (.addr 2 [] 0 0 0)))],[(2,.box true [.list false 1 (List.map (rL false 1 (rK .i64)) w.Parents),.list false 4 (List.map (zF false) w.Bodies)])]⟩ ?_
      refine opsOn hc9_1_0 ?_
      refine ops H' ?_
      refine zG ⟨rfl,shd [13,1,7,8] [(2,2)] 3 rfl⟩
     ·refine obMx ⟨19,2,3,[(9,.pl (.one (.v (.list false 1 (List.map (rL false 1 (rK .i64)) w.Parents))))),(10,.pl (.one (.v (.sc (.bool x10))))),(11,.pl (.one (.v (.sc (.bool x10))))),(12,.pl (.one (.v (.sc (.bool x10))))),(1,.pl (.one (.ref 2 []))),(7,.pl (.one (.v (.sc (.bool (decide ((w.Bodies.length:Int)≤300))))))),(8,.pl (.one (.addr 2 [] 0 0 0)))],[(2,.box true [.list false 1 (List.map (rL false 1 (rK .i64)) w.Parents),.list false 4 (List.map (zF false) w.Bodies)])]⟩ ?_
      refine opsOn hc9_1_0 ?_
      refine ops H' ?_
      refine zG ⟨rfl,.inl ⟨rfl,?_⟩⟩
      exact qN [1,12,14] [(2,2)] 3 d2'
    have d4':anyF X ?o0 [0] [(1,4,.pl (.one (.v (.list false 4 (List.map (zF false) w.Bodies))))),(2,5,.pl (.one (.v (.sc (.int .i64 (w.Bodies.length:Int)))))),(3,6,.pl (.one (.v (.sc (.bool (decide ((w.Bodies.length:Int)≤300))))))),(4,7,.pl (.one (.v (.sc (.bool (decide ((w.Bodies.length:Int)≤300))))))),(6,9,.pl (.one (.v (.list false 1 (List.map (rL false 1 (rK .i64)) w.Parents))))),(7,10,.pl (.one (.v (.sc (.bool x10))))),(8,11,.pl (.one (.v (.sc (.bool x10))))),(9,12,.pl (.one (.v (.sc (.bool x10))))),(10,13,.pl (.agg [.v (.list false 1 (List.map (rL false 1 (rK .i64)) w.Parents)),.v (.list false 4 (List.map (zF false) w.Bodies))])),(12,15,.pl (.one (.v (.list false 1 (List.map (rL false 1 (rK .i64)) w.Parents))))),(14,17,.pl (.one (.v (.sc (.bool x17))))),(15,18,.pl (.one (.v (.sc (.bool x17)))))] ?P0 ⟨19,2,3,[(1,.pl (.one (.ref 2 []))),(3,.pl (.one (.addr 2 [] 0 0 1)))],[(2,.box true [.list false 1 (List.map (rL false 1 (rK .i64)) w.Parents),.list false 4 (List.map (zF false) w.Bodies)])]⟩:=by
     refine fnode [1,2,3,4] [.q 1 4 (.pl (.one (.v (.list false 4 (List.map (zF false) w.Bodies))))) [],.q 2 5 (.pl (.one (.v (.sc (.int .i64 (w.Bodies.length:Int)))))) [1],.q 3 6 (.pl (.one (.v (.sc (.bool (decide ((w.Bodies.length:Int)≤300))))))) [2],.q 4 7 (.pl (.one (.v (.sc (.bool (decide ((w.Bodies.length:Int)≤300))))))) [3],.m 5 [4,3,2,1] [0,1,2,3,4,5] [(6,9,.pl (.one (.v (.list false 1 (List.map (rL false 1 (rK .i64)) w.Parents))))),(7,10,.pl (.one (.v (.sc (.bool x10))))),(8,11,.pl (.one (.v (.sc (.bool x10))))),(9,12,.pl (.one (.v (.sc (.bool x10))))),(10,13,.pl (.agg [.v (.list false 1 (List.map (rL false 1 (rK .i64)) w.Parents)),.v (.list false 4 (List.map (zF false) w.Bodies))])),(12,15,.pl (.one (.v (.list false 1 (List.map (rL false 1 (rK .i64)) w.Parents))))),(14,17,.pl (.one (.v (.sc (.bool x17))))),(15,18,.pl (.one (.v (.sc (.bool x17)))))]] [(1,4),(2,5),(3,6),(4,7),(6,9),(7,10),(8,11),(9,12),(10,13),(12,15),(14,17),(15,18)] [(1,true,[],[]),(2,true,[1],[]),(3,true,[2],[]),(4,true,[3],[]),(5,false,[4,3,2,1],[0,1,2,3,4,5])] ⟨?_,?_,?_,?_,?_,trivial⟩
     ·refine qB 0 ⟨19,2,3,[(1,.pl (.one (.ref 2 []))),(3,.pl (.one (.addr 2 [] 0 0 1)))],[(2,.box true [.list false 1 (List.map (rL false 1 (rK .i64)) w.Parents),.list false 4 (List.map (zF false) w.Bodies)])]⟩ ?_
      refine ops H' ?_
      refine zG ⟨rfl,shd [4,1,3] [(2,2)] 3 rfl⟩
     ·refine qB 1 ⟨19,2,3,[(4,.pl (.one (.v (.list false 4 (List.map (zF false) w.Bodies))))),(1,.pl (.one (.ref 2 []))),(3,.pl (.one (.addr 2 [] 0 0 1)))],[(2,.box true [.list false 1 (List.map (rL false 1 (rK .i64)) w.Parents),.list false 4 (List.map (zF false) w.Bodies)])]⟩ ?_
      refine ops H' ?_
      refine zG ⟨rfl,shd [5,1,3] [(2,2)] 3 rfl⟩
     ·refine qB 2 ⟨19,2,3,[(5,.pl (.one (.v (.sc (.int .i64 (w.Bodies.length:Int)))))),(1,.pl (.one (.ref 2 []))),(3,.pl (.one (.addr 2 [] 0 0 1)))],[(2,.box true [.list false 1 (List.map (rL false 1 (rK .i64)) w.Parents),.list false 4 (List.map (zF false) w.Bodies)])]⟩ ?_
      refine ops H' ?_
      refine zG ⟨rfl,shd [6,1,3] [(2,2)] 3 rfl⟩
     ·refine qB 3 ⟨19,2,3,[(6,.pl (.one (.v (.sc (.bool (decide ((w.Bodies.length:Int)≤300))))))),(1,.pl (.one (.ref 2 []))),(3,.pl (.one (.addr 2 [] 0 0 1)))],[(2,.box true [.list false 1 (List.map (rL false 1 (rK .i64)) w.Parents),.list false 4 (List.map (zF false) w.Bodies)])]⟩ ?_
      refine ops H' ?_
      refine zG ⟨rfl,shd [7,1,3] [(2,2)] 3 rfl⟩
     ·refine obMx ⟨19,2,3,[(4,.pl (.one (.v (.list false 4 (List.map (zF false) w.Bodies))))),(5,.pl (.one (.v (.sc (.int .i64 (w.Bodies.length:Int)))))),(6,.pl (.one (.v (.sc (.bool (decide ((w.Bodies.length:Int)≤300))))))),(7,.pl (.one (.v (.sc (.bool (decide ((w.Bodies.length:Int)≤300))))))),(1,.pl (.one (.ref 2 []))),(3,.pl (.one (.addr 2 [] 0 0 1)))],[(2,.box true [.list false 1 (List.map (rL false 1 (rK .i64)) w.Parents),.list false 4 (List.map (zF false) w.Bodies)])]⟩ ?_
      refine opsOn hc4_1_0 ?_
      refine ops H' ?_
      refine zG ⟨rfl,.inl ⟨rfl,?_⟩⟩
      exact qN [1,7,8] [(2,2)] 3 d3'
    refine fpure H' 0 [0] [(1,4),(2,5),(3,6),(4,7),(6,9),(7,10),(8,11),(9,12),(10,13),(12,15),(14,17),(15,18)] ?_
    exact qN [1,3] [(2,2)] 3 d4'
   ·replace gh1_1_0:=(ifF hc9_1_0).symm.trans gh1_1_0
    obtain rfl:=zso gh1_1_0
    refine regAnyF [(1,4,.pl (.one (.v (.list false 4 (List.map (zF false) w.Bodies))))),(2,5,.pl (.one (.v (.sc (.int .i64 (w.Bodies.length:Int)))))),(3,6,.pl (.one (.v (.sc (.bool (decide ((w.Bodies.length:Int)≤300))))))),(4,7,.pl (.one (.v (.sc (.bool (decide ((w.Bodies.length:Int)≤300))))))),(6,9,.pl (.one (.v (.list false 1 (List.map (rL false 1 (rK .i64)) w.Parents))))),(7,10,.pl (.one (.v (.sc (.bool x10))))),(8,11,.pl (.one (.v (.sc (.bool x10))))),(9,12,.pl (.one (.v (.sc (.bool x10))))),(10,13,.tup []),(11,14,.tup []),(12,15,.tup []),(13,16,.tup []),(14,17,.tup []),(15,18,.pl (.one (.v (.sc (.bool false)))))] ?_
    refine (?_:anyF X ?o1 _ _ ?P1 _)
    have d5':anyF X ?o1 [0,1,2,3,4,5,6,7,8,9,10,11,12,13,14,15,16] [] ?P1 ⟨19,2,2,[(2,.pl (.one (.v (.sc (.bool false)))))],[]⟩:=by
     refine fend (e2:=⟨19,2,2,[(2,.pl (.one (.v (.sc (.bool false)))))],[]⟩) [] [] [] [] trivial ⟨rfl,shd [2] [] 2 rfl⟩
    have d6':anyF X ?o1 [0,1,2,3,4,5] [(6,9,.pl (.one (.v (.list false 1 (List.map (rL false 1 (rK .i64)) w.Parents))))),(7,10,.pl (.one (.v (.sc (.bool x10))))),(8,11,.pl (.one (.v (.sc (.bool x10))))),(9,12,.pl (.one (.v (.sc (.bool x10))))),(10,13,.tup []),(11,14,.tup []),(12,15,.tup []),(13,16,.tup []),(14,17,.tup []),(15,18,.pl (.one (.v (.sc (.bool false)))))] ?P1 ⟨19,2,3,[(1,.pl (.one (.ref 2 []))),(7,.pl (.one (.v (.sc (.bool (decide ((w.Bodies.length:Int)≤300))))))),(8,.pl (.one (.addr 2 [] 0 0 0)))],[(2,.box true [.list false 1 (List.map (rL false 1 (rK .i64)) w.Parents),.list false 4 (List.map (zF false) w.Bodies)])]⟩:=by
     refine fnode [6,7,8,9,10,11,12,13,14,15] [.q 6 9 (.pl (.one (.v (.list false 1 (List.map (rL false 1 (rK .i64)) w.Parents))))) [],.q 7 10 (.pl (.one (.v (.sc (.bool x10))))) [6],.q 8 11 (.pl (.one (.v (.sc (.bool x10))))) [7],.q 9 12 (.pl (.one (.v (.sc (.bool x10))))) [7,8],.q 10 13 (.tup []) [9],.q 11 14 (.tup []) [9],.q 12 15 (.tup []) [9,11],.q 13 16 (.tup []) [9,12],.q 14 17 (.tup []) [9,10,13],.q 15 18 (.pl (.one (.v (.sc (.bool false))))) [9,14],.m 16 [6,7,8,9,10,11,12,13,14,15] [0,1,2,3,4,5,6,7,8,9,10,11,12,13,14,15,16] []] [(6,9),(7,10),(8,11),(9,12),(10,13),(11,14),(12,15),(13,16),(14,17),(15,18)] [(6,true,[],[]),(7,true,[6],[]),(8,true,[7],[]),(9,true,[7,8],[]),(10,true,[9],[]),(11,true,[9],[]),(12,true,[9,11],[]),(13,true,[9,12],[]),(14,true,[9,10,13],[]),(15,true,[9,14],[]),(16,false,[6,7,8,9,10,11,12,13,14,15],[0,1,2,3,4,5,6,7,8,9,10,11,12,13,14,15,16])] ⟨?_,?_,?_,?_,?_,?_,?_,?_,?_,?_,?_,trivial⟩
     ·refine qB 0 ⟨19,2,3,[(1,.pl (.one (.ref 2 []))),(7,.pl (.one (.v (.sc (.bool (decide ((w.Bodies.length:Int)≤300))))))),(8,.pl (.one (.addr 2 [] 0 0 0)))],[(2,.box true [.list false 1 (List.map (rL false 1 (rK .i64)) w.Parents),.list false 4 (List.map (zF false) w.Bodies)])]⟩ ?_
      refine opsOn hc4_1_0 ?_
      refine ops H' ?_
      refine zG ⟨rfl,shd [9,1,7,8] [(2,2)] 3 rfl⟩
     ·refine qB 1 ⟨19,2,3,[(9,.pl (.one (.v (.list false 1 (List.map (rL false 1 (rK .i64)) w.Parents))))),(1,.pl (.one (.ref 2 []))),(7,.pl (.one (.v (.sc (.bool (decide ((w.Bodies.length:Int)≤300))))))),(8,.pl (.one (.addr 2 [] 0 0 0)))],[(2,.box true [.list false 1 (List.map (rL false 1 (rK .i64)) w.Parents),.list false 4 (List.map (zF false) w.Bodies)])]⟩ ?_
      refine opsOn hc4_1_0 ?_
      refine zR H' (fun _=>[]) (W_impl_GraphOk _ _ hy_x10) ?_
      refine zG ⟨rfl,shd [10,1,7,8] [(2,2)] 3 rfl⟩
     ·refine qB 2 ⟨19,2,3,[(10,.pl (.one (.v (.sc (.bool x10))))),(1,.pl (.one (.ref 2 []))),(7,.pl (.one (.v (.sc (.bool (decide ((w.Bodies.length:Int)≤300))))))),(8,.pl (.one (.addr 2 [] 0 0 0)))],[(2,.box true [.list false 1 (List.map (rL false 1 (rK .i64)) w.Parents),.list false 4 (List.map (zF false) w.Bodies)])]⟩ ?_
      refine opsPick H' hc4_1_0 ?_
      refine zG ⟨rfl,shd [11,1,7,8] [(2,2)] 3 rfl⟩
     ·refine qB 3 ⟨19,2,3,[(10,.pl (.one (.v (.sc (.bool x10))))),(11,.pl (.one (.v (.sc (.bool x10))))),(1,.pl (.one (.ref 2 []))),(7,.pl (.one (.v (.sc (.bool (decide ((w.Bodies.length:Int)≤300))))))),(8,.pl (.one (.addr 2 [] 0 0 0)))],[(2,.box true [.list false 1 (List.map (rL false 1 (rK .i64)) w.Parents),.list false 4 (List.map (zF false) w.Bodies)])]⟩ ?_
      refine ops H' ?_
      refine zG ⟨rfl,shd [12,1,7,8] [(2,2)] 3 rfl⟩
     ·refine qB 4 ⟨19,2,3,[(12,.pl (.one (.v (.sc (.bool x10))))),(1,.pl (.one (.ref 2 []))),(7,.pl (.one (.v (.sc (.bool (decide ((w.Bodies.length:Int)≤300))))))),(8,.pl (.one (.addr 2 [] 0 0 0)))],[(2,.box true [.list false 1 (List.map (rL false 1 (rK .i64)) w.Parents),.list false 4 (List.map (zF false) w.Bodies)])]⟩ ?_
      refine opsOff hc9_1_0 ?_
      refine zG ⟨rfl,shd [13,1,7,8] [(2,2)] 3 rfl⟩
     ·refine qB 5 ⟨19,2,3,[(12,.pl (.one (.v (.sc (.bool x10))))),(1,.pl (.one (.ref 2 []))),(7,.pl (.one (.v (.sc (.bool (decide ((w.Bodies.length:Int)≤300))))))),(8,.pl (.one (.addr 2 [] 0 0 0)))],[(2,.box true [.list false 1 (List.map (rL false 1 (rK .i64)) w.Parents),.list false 4 (List.map (zF false) w.Bodies)])]⟩ ?_
      refine opsOff hc9_1_0 ?_
      refine zG ⟨rfl,shd [14,1,7,8] [(2,2)] 3 rfl⟩
     ·refine qB 6 ⟨19,2,3,[(12,.pl (.one (.v (.sc (.bool x10))))),(14,.tup []),(1,.pl (.one (.ref 2 []))),(7,.pl (.one (.v (.sc (.bool (decide ((w.Bodies.length:Int)≤300))))))),(8,.pl (.one (.addr 2 [] 0 0 0)))],[(2,.box true [.list false 1 (List.map (rL false 1 (rK .i64)) w.Parents),.list false 4 (List.map (zF false) w.Bodies)])]⟩ ?_
      refine opsOff hc9_1_0 ?_
      refine zG ⟨rfl,shd [15,1,7,8] [(2,2)] 3 rfl⟩
     ·refine qB 7 ⟨19,2,3,[(12,.pl (.one (.v (.sc (.bool x10))))),(15,.tup []),(1,.pl (.one (.ref 2 []))),(7,.pl (.one (.v (.sc (.bool (decide ((w.Bodies.length:Int)≤300))))))),(8,.pl (.one (.addr 2 [] 0 0 0)))],[(2,.box true [.list false 1 (List.map (rL false 1 (rK .i64)) w.Parents),.list false 4 (List.map (zF false) w.Bodies)])]⟩ ?_
      refine opsOff hc9_1_0 ?_
      refine zG ⟨rfl,shd [16,1,7,8] [(2,2)] 3 rfl⟩
     ·refine qB 8 ⟨19,2,3,[(12,.pl (.one (.v (.sc (.bool x10))))),(13,.tup []),(16,.tup []),(1,.pl (.one (.ref 2 []))),(7,.pl (.one (.v (.sc (.bool (decide ((w.Bodies.length:Int)≤300))))))),(8,.pl (.one (.addr 2 [] 0 0 0)))],[(2,.box true [.list false 1 (List.map (rL false 1 (rK .i64)) w.Parents),.list false 4 (List.map (zF false) w.Bodies)])]⟩ ?_
      refine opsOff hc9_1_0 ?_
      refine zG ⟨rfl,shd [17,1,7,8] [(2,2)] 3 rfl⟩
     ·refine qB 9 ⟨19,2,3,[(12,.pl (.one (.v (.sc (.bool x10))))),(17,.tup []),(1,.pl (.one (.ref 2 []))),(7,.pl (.one (.v (.sc (.bool (decide ((w.Bodies.length:Int)≤300))))))),(8,.pl (.one (.addr 2 [] 0 0 0)))],[(2,.box true [.list false 1 (List.map (rL false 1 (rK .i64)) w.Parents),.list false 4 (List.map (zF false) w.Bodies)])]⟩ ?_
      refine opsPick H' hc9_1_0 ?_
      refine zG ⟨rfl,shd [18,1,7,8] [(2,2)] 3 rfl⟩
     ·refine obMx ⟨19,2,3,[(9,.pl (.one (.v (.list false 1 (List.map (rL false 1 (rK .i64)) w.Parents))))),(10,.pl (.one (.v (.sc (.bool x10))))),(11,.pl (.one (.v (.sc (.bool x10))))),(12,.pl (.one (.v (.sc (.bool x10))))),(13,.tup []),(14,.tup []),(15,.tup []),(16,.tup []),(17,.tup []),(18,.pl (.one (.v (.sc (.bool false))))),(1,.pl (.one (.ref 2 []))),(7,.pl (.one (.v (.sc (.bool (decide ((w.Bodies.length:Int)≤300))))))),(8,.pl (.one (.addr 2 [] 0 0 0)))],[(2,.box true [.list false 1 (List.map (rL false 1 (rK .i64)) w.Parents),.list false 4 (List.map (zF false) w.Bodies)])]⟩ ?_
      refine ops H' ?_
      refine zG ⟨rfl,.inl ⟨rfl,?_⟩⟩
      exact qN [2] [] 2 d5'
    have d7':anyF X ?o1 [0] [(1,4,.pl (.one (.v (.list false 4 (List.map (zF false) w.Bodies))))),(2,5,.pl (.one (.v (.sc (.int .i64 (w.Bodies.length:Int)))))),(3,6,.pl (.one (.v (.sc (.bool (decide ((w.Bodies.length:Int)≤300))))))),(4,7,.pl (.one (.v (.sc (.bool (decide ((w.Bodies.length:Int)≤300))))))),(6,9,.pl (.one (.v (.list false 1 (List.map (rL false 1 (rK .i64)) w.Parents))))),(7,10,.pl (.one (.v (.sc (.bool x10))))),(8,11,.pl (.one (.v (.sc (.bool x10))))),(9,12,.pl (.one (.v (.sc (.bool x10))))),(10,13,.tup []),(11,14,.tup []),(12,15,.tup []),(13,16,.tup []),(14,17,.tup []),(15,18,.pl (.one (.v (.sc (.bool false)))))] ?P1 ⟨19,2,3,[(1,.pl (.one (.ref 2 []))),(3,.pl (.one (.addr 2 [] 0 0 1)))],[(2,.box true [.list false 1 (List.map (rL false 1 (rK .i64)) w.Parents),.list false 4 (List.map (zF false) w.Bodies)])]⟩:=by
     refine fnode [1,2,3,4] [.q 1 4 (.pl (.one (.v (.list false 4 (List.map (zF false) w.Bodies))))) [],.q 2 5 (.pl (.one (.v (.sc (.int .i64 (w.Bodies.length:Int)))))) [1],.q 3 6 (.pl (.one (.v (.sc (.bool (decide ((w.Bodies.length:Int)≤300))))))) [2],.q 4 7 (.pl (.one (.v (.sc (.bool (decide ((w.Bodies.length:Int)≤300))))))) [3],.m 5 [4,3,2,1] [0,1,2,3,4,5] [(6,9,.pl (.one (.v (.list false 1 (List.map (rL false 1 (rK .i64)) w.Parents))))),(7,10,.pl (.one (.v (.sc (.bool x10))))),(8,11,.pl (.one (.v (.sc (.bool x10))))),(9,12,.pl (.one (.v (.sc (.bool x10))))),(10,13,.tup []),(11,14,.tup []),(12,15,.tup []),(13,16,.tup []),(14,17,.tup []),(15,18,.pl (.one (.v (.sc (.bool false)))))]] [(1,4),(2,5),(3,6),(4,7),(6,9),(7,10),(8,11),(9,12),(10,13),(11,14),(12,15),(13,16),(14,17),(15,18)] [(1,true,[],[]),(2,true,[1],[]),(3,true,[2],[]),(4,true,[3],[]),(5,false,[4,3,2,1],[0,1,2,3,4,5])] ⟨?_,?_,?_,?_,?_,trivial⟩
     ·refine qB 0 ⟨19,2,3,[(1,.pl (.one (.ref 2 []))),(3,.pl (.one (.addr 2 [] 0 0 1)))],[(2,.box true [.list false 1 (List.map (rL false 1 (rK .i64)) w.Parents),.list false 4 (List.map (zF false) w.Bodies)])]⟩ ?_
      refine ops H' ?_
      refine zG ⟨rfl,shd [4,1,3] [(2,2)] 3 rfl⟩
     ·refine qB 1 ⟨19,2,3,[(4,.pl (.one (.v (.list false 4 (List.map (zF false) w.Bodies))))),(1,.pl (.one (.ref 2 []))),(3,.pl (.one (.addr 2 [] 0 0 1)))],[(2,.box true [.list false 1 (List.map (rL false 1 (rK .i64)) w.Parents),.list false 4 (List.map (zF false) w.Bodies)])]⟩ ?_
      refine ops H' ?_
      refine zG ⟨rfl,shd [5,1,3] [(2,2)] 3 rfl⟩
     ·refine qB 2 ⟨19,2,3,[(5,.pl (.one (.v (.sc (.int .i64 (w.Bodies.length:Int)))))),(1,.pl (.one (.ref 2 []))),(3,.pl (.one (.addr 2 [] 0 0 1)))],[(2,.box true [.list false 1 (List.map (rL false 1 (rK .i64)) w.Parents),.list false 4 (List.map (zF false) w.Bodies)])]⟩ ?_
      refine ops H' ?_
      refine zG ⟨rfl,shd [6,1,3] [(2,2)] 3 rfl⟩
     ·refine qB 3 ⟨19,2,3,[(6,.pl (.one (.v (.sc (.bool (decide ((w.Bodies.length:Int)≤300))))))),(1,.pl (.one (.ref 2 []))),(3,.pl (.one (.addr 2 [] 0 0 1)))],[(2,.box true [.list false 1 (List.map (rL false 1 (rK .i64)) w.Parents),.list false 4 (List.map (zF false) w.Bodies)])]⟩ ?_
      refine ops H' ?_
      refine zG ⟨rfl,shd [7,1,3] [(2,2)] 3 rfl⟩
     ·refine obMx ⟨19,2,3,[(4,.pl (.one (.v (.list false 4 (List.map (zF false) w.Bodies))))),(5,.pl (.one (.v (.sc (.int .i64 (w.Bodies.length:Int)))))),(6,.pl (.one (.v (.sc (.bool (decide ((w.Bodies.length:Int)≤300))))))),(7,.pl (.one (.v (.sc (.bool (decide ((w.Bodies.length:Int)≤300))))))),(1,.pl (.one (.ref 2 []))),(3,.pl (.one (.addr 2 [] 0 0 1)))],[(2,.box true [.list false 1 (List.map (rL false 1 (rK .i64)) w.Parents),.list false 4 (List.map (zF false) w.Bodies)])]⟩ ?_
      refine opsOn hc4_1_0 ?_
      refine ops H' ?_
      refine zG ⟨rfl,.inl ⟨rfl,?_⟩⟩
      exact qN [1,7,8] [(2,2)] 3 d6'
    refine fpure H' 0 [0] [(1,4),(2,5),(3,6),(4,7),(6,9),(7,10),(8,11),(9,12),(10,13),(11,14),(12,15),(13,16),(14,17),(15,18)] ?_
    exact qN [1,3] [(2,2)] 3 d7'
  ·replace gh0_1_0:=(ifF hc4_1_0).symm.trans gh0_1_0
   obtain rfl:=zso gh0_1_0
   have hc9_1_0:false=false:=rfl
   replace gh1_1_0:=(ifF hc9_1_0).symm.trans gh1_1_0
   obtain rfl:=zso gh1_1_0
   refine regAnyF [(1,4,.pl (.one (.v (.list false 4 (List.map (zF false) w.Bodies))))),(2,5,.pl (.one (.v (.sc (.int .i64 (w.Bodies.length:Int)))))),(3,6,.pl (.one (.v (.sc (.bool (decide ((w.Bodies.length:Int)≤300))))))),(4,7,.pl (.one (.v (.sc (.bool (decide ((w.Bodies.length:Int)≤300))))))),(5,8,.tup []),(6,9,.tup []),(7,10,.tup []),(8,11,.pl (.one (.v (.sc (.bool false))))),(9,12,.pl (.one (.v (.sc (.bool false))))),(10,13,.tup []),(11,14,.tup []),(12,15,.tup []),(13,16,.tup []),(14,17,.tup []),(15,18,.pl (.one (.v (.sc (.bool false)))))] ?_
   refine (?_:anyF X ?o2 _ _ ?P2 _)
   have d8':anyF X ?o2 [0,1,2,3,4,5,6,7,8,9,10,11,12,13,14,15,16] [] ?P2 ⟨19,2,2,[(2,.pl (.one (.v (.sc (.bool false)))))],[]⟩:=by
    refine fend (e2:=⟨19,2,2,[(2,.pl (.one (.v (.sc (.bool false)))))],[]⟩) [] [] [] [] trivial ⟨rfl,shd [2] [] 2 rfl⟩
   have d9':anyF X ?o2 [0] [(1,4,.pl (.one (.v (.list false 4 (List.map (zF false) w.Bodies))))),(2,5,.pl (.one (.v (.sc (.int .i64 (w.Bodies.length:Int)))))),(3,6,.pl (.one (.v (.sc (.bool (decide ((w.Bodies.length:Int)≤300))))))),(4,7,.pl (.one (.v (.sc (.bool (decide ((w.Bodies.length:Int)≤300))))))),(5,8,.tup []),(6,9,.tup []),(7,10,.tup []),(8,11,.pl (.one (.v (.sc (.bool false))))),(9,12,.pl (.one (.v (.sc (.bool false))))),(10,13,.tup []),(11,14,.tup []),(12,15,.tup []),(13,16,.tup []),(14,17,.tup []),(15,18,.pl (.one (.v (.sc (.bool false)))))] ?P2 ⟨19,2,3,[(1,.pl (.one (.ref 2 []))),(3,.pl (.one (.addr 2 [] 0 0 1)))],[(2,.box true [.list false 1 (List.map (rL false 1 (rK .i64)) w.Parents),.list false 4 (List.map (zF false) w.Bodies)])]⟩:=by
    refine fnode [1,2,3,4,5,6,7,8,9,10,11,12,13,14,15] [.q 1 4 (.pl (.one (.v (.list false 4 (List.map (zF false) w.Bodies))))) [],.q 2 5 (.pl (.one (.v (.sc (.int .i64 (w.Bodies.length:Int)))))) [1],.q 3 6 (.pl (.one (.v (.sc (.bool (decide ((w.Bodies.length:Int)≤300))))))) [2],.q 4 7 (.pl (.one (.v (.sc (.bool (decide ((w.Bodies.length:Int)≤300))))))) [3],.q 5 8 (.tup []) [4],.q 6 9 (.tup []) [4,5],.q 7 10 (.tup []) [4,6],.q 8 11 (.pl (.one (.v (.sc (.bool false))))) [4,7],.q 9 12 (.pl (.one (.v (.sc (.bool false))))) [7,8],.q 10 13 (.tup []) [9],.q 11 14 (.tup []) [9],.q 12 15 (.tup []) [9,11],.q 13 16 (.tup []) [9,12],.q 14 17 (.tup []) [9,10,13],.q 15 18 (.pl (.one (.v (.sc (.bool false))))) [9,14],.m 16 [1,2,3,4,5,6,7,8,9,10,11,12,13,14,15] [0,1,2,3,4,5,6,7,8,9,10,11,12,13,14,15,16] []] [(1,4),(2,5),(3,6),(4,7),(5,8),(6,9),(7,10),(8,11),(9,12),(10,13),(11,14),(12,15),(13,16),(14,17),(15,18)] [(1,true,[],[]),(2,true,[1],[]),(3,true,[2],[]),(4,true,[3],[]),(5,true,[4],[]),(6,true,[4,5],[]),(7,true,[4,6],[]),(8,true,[4,7],[]),(9,true,[7,8],[]),(10,true,[9],[]),(11,true,[9],[]),(12,true,[9,11],[]),(13,true,[9,12],[]),(14,true,[9,10,13],[]),(15,true,[9,14],[]),(16,false,[1,2,3,4,5,6,7,8,9,10,11,12,13,14,15],[0,1,2,3,4,5,6,7,8,9,10,11,12,13,14,15,16])] ⟨?_,?_,?_,?_,?_,?_,?_,?_,?_,?_,?_,?_,?_,?_,?_,?_,trivial⟩
    ·refine qB 0 ⟨19,2,3,[(1,.pl (.one (.ref 2 []))),(3,.pl (.one (.addr 2 [] 0 0 1)))],[(2,.box true [.list false 1 (List.map (rL false 1 (rK .i64)) w.Parents),.list false 4 (List.map (zF false) w.Bodies)])]⟩ ?_
     refine ops H' ?_
     refine zG ⟨rfl,shd [4,1,3] [(2,2)] 3 rfl⟩
    ·refine qB 1 ⟨19,2,3,[(4,.pl (.one (.v (.list false 4 (List.map (zF false) w.Bodies))))),(1,.pl (.one (.ref 2 []))),(3,.pl (.one (.addr 2 [] 0 0 1)))],[(2,.box true [.list false 1 (List.map (rL false 1 (rK .i64)) w.Parents),.list false 4 (List.map (zF false) w.Bodies)])]⟩ ?_
     refine ops H' ?_
     refine zG ⟨rfl,shd [5,1,3] [(2,2)] 3 rfl⟩
    ·refine qB 2 ⟨19,2,3,[(5,.pl (.one (.v (.sc (.int .i64 (w.Bodies.length:Int)))))),(1,.pl (.one (.ref 2 []))),(3,.pl (.one (.addr 2 [] 0 0 1)))],[(2,.box true [.list false 1 (List.map (rL false 1 (rK .i64)) w.Parents),.list false 4 (List.map (zF false) w.Bodies)])]⟩ ?_
     refine ops H' ?_
     refine zG ⟨rfl,shd [6,1,3] [(2,2)] 3 rfl⟩
    ·refine qB 3 ⟨19,2,3,[(6,.pl (.one (.v (.sc (.bool (decide ((w.Bodies.length:Int)≤300))))))),(1,.pl (.one (.ref 2 []))),(3,.pl (.one (.addr 2 [] 0 0 1)))],[(2,.box true [.list false 1 (List.map (rL false 1 (rK .i64)) w.Parents),.list false 4 (List.map (zF false) w.Bodies)])]⟩ ?_
     refine ops H' ?_
     refine zG ⟨rfl,shd [7,1,3] [(2,2)] 3 rfl⟩
    ·refine qB 4 ⟨19,2,3,[(7,.pl (.one (.v (.sc (.bool (decide ((w.Bodies.length:Int)≤300))))))),(1,.pl (.one (.ref 2 []))),(3,.pl (.one (.addr 2 [] 0 0 1)))],[(2,.box true [.list false 1 (List.map (rL false 1 (rK .i64)) w.Parents),.list false 4 (List.map (zF false) w.Bodies)])]⟩ ?_
     refine opsOff hc4_1_0 ?_
     refine zG ⟨rfl,shd [8,1,3] [(2,2)] 3 rfl⟩
    ·refine qB 5 ⟨19,2,3,[(7,.pl (.one (.v (.sc (.bool (decide ((w.Bodies.length:Int)≤300))))))),(8,.tup []),(1,.pl (.one (.ref 2 []))),(3,.pl (.one (.addr 2 [] 0 0 1)))],[(2,.box true [.list false 1 (List.map (rL false 1 (rK .i64)) w.Parents),.list false 4 (List.map (zF false) w.Bodies)])]⟩ ?_
     refine opsOff hc4_1_0 ?_
     refine zG ⟨rfl,shd [9,1,3] [(2,2)] 3 rfl⟩
    ·refine qB 6 ⟨19,2,3,[(7,.pl (.one (.v (.sc (.bool (decide ((w.Bodies.length:Int)≤300))))))),(9,.tup []),(1,.pl (.one (.ref 2 []))),(3,.pl (.one (.addr 2 [] 0 0 1)))],[(2,.box true [.list false 1 (List.map (rL false 1 (rK .i64)) w.Parents),.list false 4 (List.map (zF false) w.Bodies)])]⟩ ?_
     refine opsOff hc4_1_0 ?_
     refine zG ⟨rfl,shd [10,1,3] [(2,2)] 3 rfl⟩
    ·refine qB 7 ⟨19,2,3,[(7,.pl (.one (.v (.sc (.bool (decide ((w.Bodies.length:Int)≤300))))))),(10,.tup []),(1,.pl (.one (.ref 2 []))),(3,.pl (.one (.addr 2 [] 0 0 1)))],[(2,.box true [.list false 1 (List.map (rL false 1 (rK .i64)) w.Parents),.list false 4 (List.map (zF false) w.Bodies)])]⟩ ?_
     refine opsPick H' hc4_1_0 ?_
     refine zG ⟨rfl,shd [11,1,3] [(2,2)] 3 rfl⟩
    ·refine qB 8 ⟨19,2,3,[(10,.tup []),(11,.pl (.one (.v (.sc (.bool false))))),(1,.pl (.one (.ref 2 []))),(3,.pl (.one (.addr 2 [] 0 0 1)))],[(2,.box true [.list false 1 (List.map (rL false 1 (rK .i64)) w.Parents),.list false 4 (List.map (zF false) w.Bodies)])]⟩ ?_
     refine ops H' ?_
     refine zG ⟨rfl,shd [12,1,3] [(2,2)] 3 rfl⟩
    ·refine qB 9 ⟨19,2,3,[(12,.pl (.one (.v (.sc (.bool false))))),(1,.pl (.one (.ref 2 []))),(3,.pl (.one (.addr 2 [] 0 0 1)))],[(2,.box true [.list false 1 (List.map (rL false 1 (rK .i64)) w.Parents),.list false 4 (List.map (zF false) w.Bodies)])]⟩ ?_
     refine opsOff hc9_1_0 ?_
     refine zG ⟨rfl,shd [13,1,3] [(2,2)] 3 rfl⟩
    ·refine qB 10 ⟨19,2,3,[(12,.pl (.one (.v (.sc (.bool false))))),(1,.pl (.one (.ref 2 []))),(3,.pl (.one (.addr 2 [] 0 0 1)))],[(2,.box true [.list false 1 (List.map (rL false 1 (rK .i64)) w.Parents),.list false 4 (List.map (zF false) w.Bodies)])]⟩ ?_
     refine opsOff hc9_1_0 ?_
     refine zG ⟨rfl,shd [14,1,3] [(2,2)] 3 rfl⟩
    ·refine qB 11 ⟨19,2,3,[(12,.pl (.one (.v (.sc (.bool false))))),(14,.tup []),(1,.pl (.one (.ref 2 []))),(3,.pl (.one (.addr 2 [] 0 0 1)))],[(2,.box true [.list false 1 (List.map (rL false 1 (rK .i64)) w.Parents),.list false 4 (List.map (zF false) w.Bodies)])]⟩ ?_
     refine opsOff hc9_1_0 ?_
     refine zG ⟨rfl,shd [15,1,3] [(2,2)] 3 rfl⟩
    ·refine qB 12 ⟨19,2,3,[(12,.pl (.one (.v (.sc (.bool false))))),(15,.tup []),(1,.pl (.one (.ref 2 []))),(3,.pl (.one (.addr 2 [] 0 0 1)))],[(2,.box true [.list false 1 (List.map (rL false 1 (rK .i64)) w.Parents),.list false 4 (List.map (zF false) w.Bodies)])]⟩ ?_
     refine opsOff hc9_1_0 ?_
     refine zG ⟨rfl,shd [16,1,3] [(2,2)] 3 rfl⟩
    ·refine qB 13 ⟨19,2,3,[(12,.pl (.one (.v (.sc (.bool false))))),(13,.tup []),(16,.tup []),(1,.pl (.one (.ref 2 []))),(3,.pl (.one (.addr 2 [] 0 0 1)))],[(2,.box true [.list false 1 (List.map (rL false 1 (rK .i64)) w.Parents),.list false 4 (List.map (zF false) w.Bodies)])]⟩ ?_
     refine opsOff hc9_1_0 ?_
     refine zG ⟨rfl,shd [17,1,3] [(2,2)] 3 rfl⟩
    ·refine qB 14 ⟨19,2,3,[(12,.pl (.one (.v (.sc (.bool false))))),(17,.tup []),(1,.pl (.one (.ref 2 []))),(3,.pl (.one (.addr 2 [] 0 0 1)))],[(2,.box true [.list false 1 (List.map (rL false 1 (rK .i64)) w.Parents),.list false 4 (List.map (zF false) w.Bodies)])]⟩ ?_
     refine opsPick H' hc9_1_0 ?_
     refine zG ⟨rfl,shd [18,1,3] [(2,2)] 3 rfl⟩
    ·refine obMx ⟨19,2,3,[(4,.pl (.one (.v (.list false 4 (List.map (zF false) w.Bodies))))),(5,.pl (.one (.v (.sc (.int .i64 (w.Bodies.length:Int)))))),(6,.pl (.one (.v (.sc (.bool (decide ((w.Bodies.length:Int)≤300))))))),(7,.pl (.one (.v (.sc (.bool (decide ((w.Bodies.length:Int)≤300))))))),(8,.tup []),(9,.tup []),(10,.tup []),(11,.pl (.one (.v (.sc (.bool false))))),(12,.pl (.one (.v (.sc (.bool false))))),(13,.tup []),(14,.tup []),(15,.tup []),(16,.tup []),(17,.tup []),(18,.pl (.one (.v (.sc (.bool false))))),(1,.pl (.one (.ref 2 []))),(3,.pl (.one (.addr 2 [] 0 0 1)))],[(2,.box true [.list false 1 (List.map (rL false 1 (rK .i64)) w.Parents),.list false 4 (List.map (zF false) w.Bodies)])]⟩ ?_
     refine ops H' ?_
     refine zG ⟨rfl,.inl ⟨rfl,?_⟩⟩
     exact qN [2] [] 2 d8'
   refine fpure H' 0 [0] [(1,4),(2,5),(3,6),(4,7),(5,8),(6,9),(7,10),(8,11),(9,12),(10,13),(11,14),(12,15),(13,16),(14,17),(15,18)] ?_
   exact qN [1,3] [(2,2)] 3 d9'
 ·rintro e' rfl
  refine contN ?_
  refine zN ?_
  obtain rfl:=zso h0'
  exact zO H' rfl rfl
theorem W_impl_Store_graphs (s:T_impl_Store) (r':(List (List (List Int)))) (h0':impl_Store_graphs s=some r'):Fn X 59 [.one (.box false [.list false 3 (List.map (zC false) s.Commits),.list false 2 (List.map (zD false) s.Files)])] [.one (.list true 1 (List.map (rL false 1 (rL false 1 (rK .i64))) r'))] []:=by
 have H':=And.intro t3 (And.intro t25 (And.intro t27 (And.intro t33 (And.intro t36 (And.intro t106 (And.intro R_LLi64 (And.intro qT (And.intro qL (And.intro qI (And.intro zZ (And.intro qV (qK))))))))))))
 unfold impl_Store_graphs at h0'
 refine Fn.start (fn:=f59) (N:=22) (res:=[.tmp 2]) rfl rfl rfl rfl rfl (by simp) ?_
 refine zU H' ?_
 refine zB ?_
 refine zA ?_
 refine ops H' ?_
 refine zE ?_
 refine zB ?_
 refine zA ?_
 refine ops H' ?_
 refine zE ?_
 refine zV (fun e'=>∃ out_,impl_Store_graphs_j1 out_=some r'∧e'=⟨22,1,2,[(3,.pl (.one (.ref 1 [])))],[(1,.list true 1 (List.map (rL false 1 (rL false 1 (rK .i64))) out_))]⟩) ?_ ?_
 ·refine zB ?_
  refine zA ?_
  refine ops H' ?_
  refine zE ?_
  obtain ⟨p,hl',h0'⟩:=zbi h0'
  refine zI ?_
  refine zS (fun s' e'=>∃ x11 out__1,s'=(x11,out__1)∧e'=⟨22,1,2,[(3,.pl (.one (.ref 1 []))),(9,.pl (.one (.v (.list false 2 (List.map (zD false) s.Files))))),(10,.pl (.one (.v (.sc (.int .i64 (s.Files.length:Int)))))),(11,.pl (.one (.v (.sc (.int .i64 x11)))))],[(1,.list true 1 (List.map (rL false 1 (rL false 1 (rK .i64))) out__1))]⟩) hl' (shd [3,9,10,11] [(2,1)] 2 ⟨_,_,rfl,rfl⟩) ?_
  rintro s' y1' e' h1' ⟨x11,out__1,rfl,rfl⟩
  replace h1':impl_Store_graphs_l1 s x11 out__1=some y1':=h1'
  unfold impl_Store_graphs_l1 at h1'
  refine zB ?_
  refine zA ?_
  refine ops H' ?_
  refine zE ?_
  refine zB ?_
  refine zH (fun hc'=>?_) (fun hc'=>?_)
  ·replace h1':=(ifT hc').symm.trans h1'
   refine zM ?_
   refine zB ?_
   refine zI ?_
   refine zB ?_
   refine zA ?_
   obtain ⟨x,hv',h1'⟩:=zbi h1'
   have H':=And.intro (zP hv') H'
   refine ops H' ?_
   refine zE ?_
   refine zA ?_
   obtain ⟨l,hv',h1'⟩:=zbi h1'
   have H':=And.intro (app1_f hv') H'
   refine ops H' ?_
   refine zE ?_
   refine zA ?_
   refine ops H' ?_
   refine zE ?_
   obtain rfl:=zso h1'
   exact shd [3,9,10,11] [(1,1)] 2 ⟨_,rfl,_,_,rfl,rfl⟩
  ·replace h1':=(ifF hc').symm.trans h1'
   refine qJ ?_
   obtain rfl:=zso h1'
   refine ⟨_,rfl,fun hr'=>?_⟩
   subst hr'
   exact shd [3] [(1,1)] 2 ⟨_,h0',rfl⟩
 ·rintro e' ⟨out_,h0',rfl⟩
  unfold impl_Store_graphs_j1 at h0'
  refine zB ?_
  refine zA ?_
  refine ops H' ?_
  refine zE ?_
  refine zN ?_
  obtain rfl:=zso h0'
  exact zO H' rfl rfl
theorem W_impl_sizesOf (files:List (List (List Int))) (r':(List Int)) (h0':impl_sizesOf files=some r'):Fn X 58 [.one (.list false 1 (List.map (rL false 1 (rL false 1 (rK .i64))) files))] [.one (.list true 1 (List.map (rK .i64) r'))] []:=by
 have H':=And.intro t3 (And.intro t33 (And.intro t40 (And.intro t106 (And.intro R_LLi64 (And.intro qT (qK))))))
 unfold impl_sizesOf at h0'
 refine Fn.start (fn:=f58) (N:=19) (res:=[.tmp 2]) rfl rfl rfl rfl rfl (by simp) ?_
 refine zU H' ?_
 refine zB ?_
 refine zA ?_
 refine ops H' ?_
 refine zE ?_
 refine zB ?_
 refine zA ?_
 refine ops H' ?_
 refine zE ?_
 refine zV (fun e'=>∃ out_,impl_sizesOf_j1 out_=some r'∧e'=⟨19,1,2,[(3,.pl (.one (.ref 1 [])))],[(1,.list true 1 (List.map (rK .i64) out_))]⟩) ?_ ?_
 ·refine zB ?_
  refine zA ?_
  refine ops H' ?_
  refine zE ?_
  obtain ⟨p,hl',h0'⟩:=zbi h0'
  refine zI ?_
  refine zS (fun s' e'=>∃ x8 out__1,s'=(x8,out__1)∧e'=⟨19,1,2,[(3,.pl (.one (.ref 1 []))),(6,.pl (.one (.v (.list false 1 (List.map (rL false 1 (rL false 1 (rK .i64))) files))))),(7,.pl (.one (.v (.sc (.int .i64 (files.length:Int)))))),(8,.pl (.one (.v (.sc (.int .i64 x8)))))],[(1,.list true 1 (List.map (rK .i64) out__1))]⟩) hl' (shd [3,6,7,8] [(2,1)] 2 ⟨_,_,rfl,rfl⟩) ?_
  rintro s' y1' e' h1' ⟨x8,out__1,rfl,rfl⟩
  replace h1':impl_sizesOf_l1 files x8 out__1=some y1':=h1'
  unfold impl_sizesOf_l1 at h1'
  refine zB ?_
  refine zA ?_
  refine ops H' ?_
  refine zE ?_
  refine zB ?_
  refine zH (fun hc'=>?_) (fun hc'=>?_)
  ·replace h1':=(ifT hc').symm.trans h1'
   refine zM ?_
   refine zB ?_
   refine zI ?_
   refine zB ?_
   refine zA ?_
   obtain ⟨x,hv',h1'⟩:=zbi h1'
   have H':=And.intro (zP hv') H'
   refine ops H' ?_
   refine zE ?_
   refine zA ?_
   obtain ⟨l,hv',h1'⟩:=zbi h1'
   have H':=And.intro (app1_f hv') H'
   refine ops H' ?_
   refine zE ?_
   refine zA ?_
   refine ops H' ?_
   refine zE ?_
   obtain rfl:=zso h1'
   exact shd [3,6,7,8] [(1,1)] 2 ⟨_,rfl,_,_,rfl,rfl⟩
  ·replace h1':=(ifF hc').symm.trans h1'
   refine qJ ?_
   obtain rfl:=zso h1'
   refine ⟨_,rfl,fun hr'=>?_⟩
   subst hr'
   exact shd [3] [(1,1)] 2 ⟨_,h0',rfl⟩
 ·rintro e' ⟨out_,h0',rfl⟩
  unfold impl_sizesOf_j1 at h0'
  refine zB ?_
  refine zA ?_
  refine ops H' ?_
  refine zE ?_
  refine zN ?_
  obtain rfl:=zso h0'
  exact zO H' rfl rfl
theorem W_impl_graphOf (list_:List T_impl_Commit) (r':(List (List Int))) (h0':impl_graphOf list_=some r'):Fn X 153 [.one (.list false 3 (List.map (zC false) list_))] [.one (.list true 1 (List.map (rL false 1 (rK .i64)) r'))] []:=by
 have H':=And.intro t3 (And.intro t24 (And.intro t33 (And.intro t40 (And.intro t43 (And.intro qT (And.intro qI (And.intro zZ (qK))))))))
 unfold impl_graphOf at h0'
 refine Fn.start (fn:=f153) (N:=19) (res:=[.tmp 2]) rfl rfl rfl rfl rfl (by simp) ?_
 refine zU H' ?_
 refine zB ?_
 refine zA ?_
 refine ops H' ?_
 refine zE ?_
 refine zB ?_
 refine zA ?_
 refine ops H' ?_
 refine zE ?_
 refine zV (fun e'=>∃ out_,impl_graphOf_j1 out_=some r'∧e'=⟨19,1,2,[(3,.pl (.one (.ref 1 [])))],[(1,.list true 1 (List.map (rL false 1 (rK .i64)) out_))]⟩) ?_ ?_
 ·refine zB ?_
  refine zA ?_
  refine ops H' ?_
  refine zE ?_
  obtain ⟨p,hl',h0'⟩:=zbi h0'
  refine zI ?_
  refine zS (fun s' e'=>∃ x8 out__1,s'=(x8,out__1)∧e'=⟨19,1,2,[(3,.pl (.one (.ref 1 []))),(6,.pl (.one (.v (.list false 3 (List.map (zC false) list_))))),(7,.pl (.one (.v (.sc (.int .i64 (list_.length:Int)))))),(8,.pl (.one (.v (.sc (.int .i64 x8)))))],[(1,.list true 1 (List.map (rL false 1 (rK .i64)) out__1))]⟩) hl' (shd [3,6,7,8] [(2,1)] 2 ⟨_,_,rfl,rfl⟩) ?_
  rintro s' y1' e' h1' ⟨x8,out__1,rfl,rfl⟩
  replace h1':impl_graphOf_l1 list_ x8 out__1=some y1':=h1'
  unfold impl_graphOf_l1 at h1'
  refine zB ?_
  refine zA ?_
  refine ops H' ?_
  refine zE ?_
  refine zB ?_
  refine zH (fun hc'=>?_) (fun hc'=>?_)
  ·replace h1':=(ifT hc').symm.trans h1'
   refine zM ?_
   refine zB ?_
   refine zI ?_
   refine zB ?_
   refine zA ?_
   obtain ⟨x,hv',h1'⟩:=zbi h1'
   have H':=And.intro (zP hv') H'
   refine ops H' ?_
   refine zE ?_
   refine zA ?_
   obtain ⟨l,hv',h1'⟩:=zbi h1'
   have H':=And.intro (app1_f hv') H'
   refine ops H' ?_
   refine zE ?_
   refine zA ?_
   refine ops H' ?_
   refine zE ?_
   obtain rfl:=zso h1'
   exact shd [3,6,7,8] [(1,1)] 2 ⟨_,rfl,_,_,rfl,rfl⟩
  ·replace h1':=(ifF hc').symm.trans h1'
   refine qJ ?_
   obtain rfl:=zso h1'
   refine ⟨_,rfl,fun hr'=>?_⟩
   subst hr'
   exact shd [3] [(1,1)] 2 ⟨_,h0',rfl⟩
 ·rintro e' ⟨out_,h0',rfl⟩
  unfold impl_graphOf_j1 at h0'
  refine zB ?_
  refine zA ?_
  refine ops H' ?_
  refine zE ?_
  refine zN ?_
  obtain rfl:=zso h0'
  exact zO H' rfl rfl
theorem W_impl_NoteOk (note:ByteArray) (r':Bool) (h0':impl_NoteOk note=some r'):Fn X 217 [.one (.sc (.string note))] [.one (.sc (.bool r'))] []:=by
 have H':=And.intro t3 (And.intro t5 (t9))
 unfold impl_NoteOk at h0'
 refine Fn.start (fn:=f217) (N:=23) (res:=[.tmp 2]) rfl rfl rfl rfl rfl (by simp) ?_
 refine zU H' ?_
 refine zB ?_
 refine zA ?_
 refine ops H' ?_
 refine zE ?_
 refine zV (fun e'=>impl_NoteOk_j1 note=some r'∧e'=⟨23,1,1,[(0,.pl (.one (.v (.sc (.string note)))))],[]⟩) ?_ ?_
 ·refine zB ?_
  refine zA ?_
  refine ops H' ?_
  refine zE ?_
  obtain ⟨p,hl',h0'⟩:=zbi h0'
  refine zI ?_
  refine zS (fun i e'=>e'=⟨23,1,1,[(0,.pl (.one (.v (.sc (.string note))))),(3,.pl (.one (.v (.sc (.int .i64 i)))))],[]⟩) hl' (shd [0,3] [] 1 rfl) ?_
  rintro i y1' e' h1' rfl
  replace h1':impl_NoteOk_l1 note i=some y1':=h1'
  unfold impl_NoteOk_l1 at h1'
  refine zB ?_
  refine zB ?_
  refine zA ?_
  refine ops H' ?_
  refine zE ?_
  refine zH (fun hc'=>?_) (fun hc'=>?_)
  ·replace h1':=(ifT hc').symm.trans h1'
   refine zM ?_
   refine zB ?_
   refine zI ?_
   refine zB ?_
   refine zA ?_
   obtain ⟨x12,hv',h1'⟩:=zbi h1'
   have H':=And.intro (sidx_f hv') H'
   refine ops H' ?_
   obtain ⟨b,gh1',h1'⟩:=zbi h1'
   refine qC 5 (fun e'=>e'=⟨23,1,1,[(0,.pl (.one (.v (.sc (.string note))))),(3,.pl (.one (.v (.sc (.int .i64 i))))),(19,.pl (.one (.v (.sc (.bool b)))))],[]⟩) ?_ ?_
   ·simp only [List.take_succ_cons,List.take_zero]
    refine qE (fun hc'=>?_) (fun hc'=>?_)
    ·replace gh1':=(ifF hc').symm.trans gh1'
     refine ops H' ?_
     obtain rfl:=zso gh1'
     refine zG ?_
     exact ⟨rfl,shd [0,3,19] [] 1 rfl⟩
    ·replace gh1':=(ifT hc').symm.trans gh1'
     refine ops H' ?_
     obtain rfl:=zso gh1'
     refine zG ?_
     exact ⟨rfl,shd [0,3,19] [] 1 rfl⟩
   ·rintro e' rfl
    simp only [List.drop_succ_cons,List.drop_zero]
    refine zE ?_
    refine zH (fun hc'=>?_) (fun hc'=>?_)
    ·replace h1':=(ifT hc').symm.trans h1'
     refine zB ?_
     refine zA ?_
     refine ops H' ?_
     refine zE ?_
     refine zN ?_
     obtain rfl:=zso h1'
     refine ⟨_,rfl,fun hr'=>?_⟩
     subst hr'
     obtain rfl:=zso h0'
     exact zO H' rfl rfl
    ·replace h1':=(ifF hc').symm.trans h1'
     refine zM ?_
     refine zA ?_
     refine ops H' ?_
     refine zE ?_
     obtain rfl:=zso h1'
     exact shd [0,3] [] 1 ⟨_,rfl,rfl⟩
  ·replace h1':=(ifF hc').symm.trans h1'
   refine qJ ?_
   obtain rfl:=zso h1'
   refine ⟨_,rfl,fun hr'=>?_⟩
   subst hr'
   exact shd [0] [] 1 ⟨h0',rfl⟩
 ·rintro e' ⟨h0',rfl⟩
  unfold impl_NoteOk_j1 at h0'
  refine zB ?_
  refine zA ?_
  refine ops H' ?_
  refine zE ?_
  refine zN ?_
  obtain rfl:=zso h0'
  exact zO H' rfl rfl
theorem W_internal_stringslite_HasPrefix (s:ByteArray) (prefix_:ByteArray) (r':Bool) (h0':jU s prefix_=some r'):Fn X 281 [.one (.sc (.string s)),.one (.sc (.string prefix_))] [.one (.sc (.bool r'))] []:=by
 have H':=And.intro t3 (t9)
 unfold jU at h0'
 refine Fn.start (fn:=f281) (N:=18) (res:=[.tmp 4]) rfl rfl rfl rfl rfl (by simp) ?_
 refine zU H' ?_
 refine zB ?_
 refine zA ?_
 refine ops H' ?_
 refine zE ?_
 refine zB ?_
 refine zA ?_
 refine ops H' ?_
 obtain ⟨b,gh0',h0'⟩:=zbi h0'
 refine qC 7 (fun e'=>e'=⟨18,2,2,[(17,.pl (.one (.v (.sc (.bool b)))))],[]⟩) ?_ ?_
 ·simp only [List.take_succ_cons,List.take_zero]
  refine qE (fun hc'=>?_) (fun hc'=>?_)
  ·replace gh0':=(ifT hc').symm.trans gh0'
   obtain ⟨x14,hv',gh0'⟩:=zbi gh0'
   have H':=And.intro (subH_f hv') H'
   refine ops H' ?_
   obtain rfl:=zso gh0'
   refine zG ?_
   exact ⟨rfl,shd [17] [] 2 rfl⟩
  ·replace gh0':=(ifF hc').symm.trans gh0'
   refine ops H' ?_
   obtain rfl:=zso gh0'
   refine zG ?_
   exact ⟨rfl,shd [17] [] 2 rfl⟩
 ·rintro e' rfl
  simp only [List.drop_succ_cons,List.drop_zero]
  refine ops H' ?_
  refine zE ?_
  refine zN ?_
  obtain rfl:=zso h0'
  exact zO H' rfl rfl
theorem W_strings_HasPrefix (s:ByteArray) (prefix_:ByteArray) (r':Bool) (h0':strings_HasPrefix s prefix_=some r'):Fn X 272 [.one (.sc (.string s)),.one (.sc (.string prefix_))] [.one (.sc (.bool r'))] []:=by
 have H':=trivial
 unfold strings_HasPrefix at h0'
 refine Fn.start (fn:=f272) (N:=8) (res:=[.tmp 4]) rfl rfl rfl rfl rfl (by simp) ?_
 refine zU H' ?_
 refine zB ?_
 refine zA ?_
 refine ops H' ?_
 refine zE ?_
 refine zB ?_
 refine zA ?_
 refine ops H' ?_
 obtain ⟨x7,hy',h0'⟩:=zbi h0'
 refine zR H' (fun _=>[]) (W_internal_stringslite_HasPrefix _ _ _ hy') ?_
 refine ops H' ?_
 refine zE ?_
 refine zN ?_
 obtain rfl:=zso h0'
 exact zO H' rfl rfl
theorem W_internal_stringslite_HasSuffix (s:ByteArray) (suffix:ByteArray) (r':Bool) (h0':jT s suffix=some r'):Fn X 282 [.one (.sc (.string s)),.one (.sc (.string suffix))] [.one (.sc (.bool r'))] []:=by
 have H':=And.intro t3 (t9)
 unfold jT at h0'
 refine Fn.start (fn:=f282) (N:=21) (res:=[.tmp 4]) rfl rfl rfl rfl rfl (by simp) ?_
 refine zU H' ?_
 refine zB ?_
 refine zA ?_
 refine ops H' ?_
 refine zE ?_
 refine zB ?_
 refine zA ?_
 refine ops H' ?_
 obtain ⟨b,gh0',h0'⟩:=zbi h0'
 refine qC 10 (fun e'=>e'=⟨21,2,2,[(20,.pl (.one (.v (.sc (.bool b)))))],[]⟩) ?_ ?_
 ·simp only [List.take_succ_cons,List.take_zero]
  refine qE (fun hc'=>?_) (fun hc'=>?_)
  ·replace gh0':=(ifT hc').symm.trans gh0'
   obtain ⟨x17,hv',gh0'⟩:=zbi gh0'
   have H':=And.intro (subL_f hv') H'
   refine ops H' ?_
   obtain rfl:=zso gh0'
   refine zG ?_
   exact ⟨rfl,shd [20] [] 2 rfl⟩
  ·replace gh0':=(ifF hc').symm.trans gh0'
   refine ops H' ?_
   obtain rfl:=zso gh0'
   refine zG ?_
   exact ⟨rfl,shd [20] [] 2 rfl⟩
 ·rintro e' rfl
  simp only [List.drop_succ_cons,List.drop_zero]
  refine ops H' ?_
  refine zE ?_
  refine zN ?_
  obtain rfl:=zso h0'
  exact zO H' rfl rfl
theorem W_strings_HasSuffix (s:ByteArray) (suffix:ByteArray) (r':Bool) (h0':strings_HasSuffix s suffix=some r'):Fn X 273 [.one (.sc (.string s)),.one (.sc (.string suffix))] [.one (.sc (.bool r'))] []:=by
 have H':=trivial
 unfold strings_HasSuffix at h0'
 refine Fn.start (fn:=f273) (N:=8) (res:=[.tmp 4]) rfl rfl rfl rfl rfl (by simp) ?_
 refine zU H' ?_
 refine zB ?_
 refine zA ?_
 refine ops H' ?_
 refine zE ?_
 refine zB ?_
 refine zA ?_
 refine ops H' ?_
 obtain ⟨x7,hy',h0'⟩:=zbi h0'
 refine zR H' (fun _=>[]) (W_internal_stringslite_HasSuffix _ _ _ hy') ?_
 refine ops H' ?_
 refine zE ?_
 refine zN ?_
 obtain rfl:=zso h0'
 exact zO H' rfl rfl
theorem W_impl_PathOk (path:ByteArray) (r':Bool) (h0':impl_PathOk path=some r'):Fn X 250 [.one (.sc (.string path))] [.one (.sc (.bool r'))] []:=by
 have H':=And.intro t3 (And.intro t5 (t9))
 unfold impl_PathOk at h0'
 refine Fn.start (fn:=f250) (N:=58) (res:=[.tmp 2]) rfl rfl rfl rfl rfl (by simp) ?_
 refine zU H' ?_
 refine zB ?_
 refine zA ?_
 refine ops H' ?_
 refine zE ?_
 refine zV (fun e'=>impl_PathOk_j1 path=some r'∧e'=⟨58,1,1,[(0,.pl (.one (.v (.sc (.string path)))))],[]⟩) ?_ ?_
 ·refine zB ?_
  refine zA ?_
  refine ops H' ?_
  refine zE ?_
  obtain ⟨p,hl',h0'⟩:=zbi h0'
  refine zI ?_
  refine zS (fun i e'=>e'=⟨58,1,1,[(0,.pl (.one (.v (.sc (.string path))))),(3,.pl (.one (.v (.sc (.int .i64 i)))))],[]⟩) hl' (shd [0,3] [] 1 rfl) ?_
  rintro i y1' e' h1' rfl
  replace h1':impl_PathOk_l1 path i=some y1':=h1'
  unfold impl_PathOk_l1 at h1'
  refine zB ?_
  refine zB ?_
  refine zA ?_
  refine ops H' ?_
  refine zE ?_
  refine zH (fun hc'=>?_) (fun hc'=>?_)
  ·replace h1':=(ifT hc').symm.trans h1'
   refine zM ?_
   refine zB ?_
   refine zI ?_
   refine zB ?_
   refine zA ?_
   obtain ⟨x13,hv',h1'⟩:=zbi h1'
   have H':=And.intro (sidx_f hv') H'
   refine ops H' ?_
   refine zE ?_
   refine zB ?_
   refine zA ?_
   refine ops H' ?_
   obtain ⟨b_2,gh1',h1'⟩:=zbi h1'
   refine qC 3 (fun e'=>e'=⟨58,1,1,[(0,.pl (.one (.v (.sc (.string path))))),(3,.pl (.one (.v (.sc (.int .i64 i))))),(4,.pl (.one (.v (.sc (.int .u8 x13))))),(19,.pl (.one (.v (.sc (.bool b_2)))))],[]⟩) ?_ ?_
   ·simp only [List.take_succ_cons,List.take_zero]
    refine qE (fun hc'=>?_) (fun hc'=>?_)
    ·replace gh1':=(ifT hc').symm.trans gh1'
     refine ops H' ?_
     obtain rfl:=zso gh1'
     refine zG ?_
     exact ⟨rfl,shd [0,3,4,19] [] 1 rfl⟩
    ·replace gh1':=(ifF hc').symm.trans gh1'
     refine ops H' ?_
     obtain rfl:=zso gh1'
     refine zG ?_
     exact ⟨rfl,shd [0,3,4,19] [] 1 rfl⟩
   ·rintro e' rfl
    simp only [List.drop_succ_cons,List.drop_zero]
    refine ops H' ?_
    obtain ⟨b_3,gh1',h1'⟩:=zbi h1'
    refine qC 7 (fun e'=>e'=⟨58,1,1,[(0,.pl (.one (.v (.sc (.string path))))),(3,.pl (.one (.v (.sc (.int .i64 i))))),(4,.pl (.one (.v (.sc (.int .u8 x13))))),(27,.pl (.one (.v (.sc (.bool b_3)))))],[]⟩) ?_ ?_
    ·simp only [List.take_succ_cons,List.take_zero]
     refine qE (fun hc'=>?_) (fun hc'=>?_)
     ·replace gh1':=(ifF hc').symm.trans gh1'
      refine ops H' ?_
      obtain ⟨b_4,ggh1',gh1'⟩:=zbi gh1'
      refine qC 3 (fun e'=>e'=⟨58,1,1,[(0,.pl (.one (.v (.sc (.string path))))),(3,.pl (.one (.v (.sc (.int .i64 i))))),(4,.pl (.one (.v (.sc (.int .u8 x13))))),(20,.pl (.one (.v (.sc (.bool false))))),(21,.pl (.one (.v (.sc (.int .u8 x13))))),(22,.pl (.one (.v (.sc (.bool (decide (x13≥48))))))),(26,.pl (.one (.v (.sc (.bool b_4)))))],[]⟩) ?_ ?_
      ·simp only [List.take_succ_cons,List.take_zero]
       refine qE (fun hc'=>?_) (fun hc'=>?_)
       ·replace ggh1':=(ifT hc').symm.trans ggh1'
        refine ops H' ?_
        obtain rfl:=zso ggh1'
        refine zG ?_
        exact ⟨rfl,shd [0,3,4,20,21,22,26] [] 1 rfl⟩
       ·replace ggh1':=(ifF hc').symm.trans ggh1'
        refine ops H' ?_
        obtain rfl:=zso ggh1'
        refine zG ?_
        exact ⟨rfl,shd [0,3,4,20,21,22,26] [] 1 rfl⟩
      ·rintro e' rfl
       simp only [List.drop_succ_cons,List.drop_zero]
       refine ops H' ?_
       obtain rfl:=zso gh1'
       refine zG ?_
       exact ⟨rfl,shd [0,3,4,27] [] 1 rfl⟩
     ·replace gh1':=(ifT hc').symm.trans gh1'
      refine ops H' ?_
      obtain rfl:=zso gh1'
      refine zG ?_
      exact ⟨rfl,shd [0,3,4,27] [] 1 rfl⟩
    ·rintro e' rfl
     simp only [List.drop_succ_cons,List.drop_zero]
     refine ops H' ?_
     obtain ⟨b_5,gh1',h1'⟩:=zbi h1'
     refine qC 3 (fun e'=>e'=⟨58,1,1,[(0,.pl (.one (.v (.sc (.string path))))),(3,.pl (.one (.v (.sc (.int .i64 i))))),(4,.pl (.one (.v (.sc (.int .u8 x13))))),(31,.pl (.one (.v (.sc (.bool b_5)))))],[]⟩) ?_ ?_
     ·simp only [List.take_succ_cons,List.take_zero]
      refine qE (fun hc'=>?_) (fun hc'=>?_)
      ·replace gh1':=(ifF hc').symm.trans gh1'
       refine ops H' ?_
       obtain rfl:=zso gh1'
       refine zG ?_
       exact ⟨rfl,shd [0,3,4,31] [] 1 rfl⟩
      ·replace gh1':=(ifT hc').symm.trans gh1'
       refine ops H' ?_
       obtain rfl:=zso gh1'
       refine zG ?_
       exact ⟨rfl,shd [0,3,4,31] [] 1 rfl⟩
     ·rintro e' rfl
      simp only [List.drop_succ_cons,List.drop_zero]
      refine ops H' ?_
      obtain ⟨b_6,gh1',h1'⟩:=zbi h1'
      refine qC 3 (fun e'=>e'=⟨58,1,1,[(0,.pl (.one (.v (.sc (.string path))))),(3,.pl (.one (.v (.sc (.int .i64 i))))),(4,.pl (.one (.v (.sc (.int .u8 x13))))),(35,.pl (.one (.v (.sc (.bool b_6)))))],[]⟩) ?_ ?_
      ·simp only [List.take_succ_cons,List.take_zero]
       refine qE (fun hc'=>?_) (fun hc'=>?_)
       ·replace gh1':=(ifF hc').symm.trans gh1'
        refine ops H' ?_
        obtain rfl:=zso gh1'
        refine zG ?_
        exact ⟨rfl,shd [0,3,4,35] [] 1 rfl⟩
       ·replace gh1':=(ifT hc').symm.trans gh1'
        refine ops H' ?_
        obtain rfl:=zso gh1'
        refine zG ?_
        exact ⟨rfl,shd [0,3,4,35] [] 1 rfl⟩
      ·rintro e' rfl
       simp only [List.drop_succ_cons,List.drop_zero]
       refine ops H' ?_
       obtain ⟨b_7,gh1',h1'⟩:=zbi h1'
       refine qC 3 (fun e'=>e'=⟨58,1,1,[(0,.pl (.one (.v (.sc (.string path))))),(3,.pl (.one (.v (.sc (.int .i64 i))))),(39,.pl (.one (.v (.sc (.bool b_7)))))],[]⟩) ?_ ?_
       ·simp only [List.take_succ_cons,List.take_zero]
        refine qE (fun hc'=>?_) (fun hc'=>?_)
        ·replace gh1':=(ifF hc').symm.trans gh1'
         refine ops H' ?_
         obtain rfl:=zso gh1'
         refine zG ?_
         exact ⟨rfl,shd [0,3,39] [] 1 rfl⟩
        ·replace gh1':=(ifT hc').symm.trans gh1'
         refine ops H' ?_
         obtain rfl:=zso gh1'
         refine zG ?_
         exact ⟨rfl,shd [0,3,39] [] 1 rfl⟩
       ·rintro e' rfl
        simp only [List.drop_succ_cons,List.drop_zero]
        refine ops H' ?_
        refine zE ?_
        refine zH (fun hc'=>?_) (fun hc'=>?_)
        ·replace h1':=(ifT hc').symm.trans h1'
         refine zB ?_
         refine zA ?_
         refine ops H' ?_
         refine zE ?_
         refine zN ?_
         obtain rfl:=zso h1'
         refine ⟨_,rfl,fun hr'=>?_⟩
         subst hr'
         obtain rfl:=zso h0'
         exact zO H' rfl rfl
        ·replace h1':=(ifF hc').symm.trans h1'
         refine zM ?_
         refine zA ?_
         refine ops H' ?_
         refine zE ?_
         obtain rfl:=zso h1'
         exact shd [0,3] [] 1 ⟨_,rfl,rfl⟩
  ·replace h1':=(ifF hc').symm.trans h1'
   refine qJ ?_
   obtain rfl:=zso h1'
   refine ⟨_,rfl,fun hr'=>?_⟩
   subst hr'
   exact shd [0] [] 1 ⟨h0',rfl⟩
 ·rintro e' ⟨h0',rfl⟩
  unfold impl_PathOk_j1 at h0'
  refine zB ?_
  refine zB ?_
  refine zA ?_
  refine ops H' ?_
  obtain ⟨x43,hy',h0'⟩:=zbi h0'
  refine zR H' (fun _=>[]) (W_impl_inRange _ _ _ _ hy') ?_
  refine ops H' ?_
  refine zE ?_
  refine zH (fun hc'=>?_) (fun hc'=>?_)
  ·replace h0':=(ifT hc').symm.trans h0'
   refine zB ?_
   refine zA ?_
   refine ops H' ?_
   refine zE ?_
   refine zN ?_
   obtain rfl:=zso h0'
   exact zO H' rfl rfl
  ·replace h0':=(ifF hc').symm.trans h0'
   refine zM ?_
   refine zB ?_
   refine zA ?_
   refine ops H' ?_
   obtain ⟨x46,hy',h0'⟩:=zbi h0'
   refine zR H' (fun _=>[]) (W_strings_HasPrefix _ _ _ hy') ?_
   refine ops H' ?_
   obtain ⟨b,gh0',h0'⟩:=zbi h0'
   refine qC 4 (fun e'=>e'=⟨58,1,1,[(0,.pl (.one (.v (.sc (.string path))))),(52,.pl (.one (.v (.sc (.bool b)))))],[]⟩) ?_ ?_
   ·simp only [List.take_succ_cons,List.take_zero]
    refine qE (fun hc'=>?_) (fun hc'=>?_)
    ·replace gh0':=(ifT hc').symm.trans gh0'
     refine ops H' ?_
     obtain ⟨x50,hy',gh0'⟩:=zbi gh0'
     refine zR H' (fun _=>[]) (W_strings_HasSuffix _ _ _ hy') ?_
     refine ops H' ?_
     obtain rfl:=zso gh0'
     refine zG ?_
     exact ⟨rfl,shd [0,52] [] 1 rfl⟩
    ·replace gh0':=(ifF hc').symm.trans gh0'
     refine ops H' ?_
     obtain rfl:=zso gh0'
     refine zG ?_
     exact ⟨rfl,shd [0,52] [] 1 rfl⟩
   ·rintro e' rfl
    simp only [List.drop_succ_cons,List.drop_zero]
    refine ops H' ?_
    obtain ⟨b_1,gh0',h0'⟩:=zbi h0'
    refine qC 4 (fun e'=>e'=⟨58,1,1,[(57,.pl (.one (.v (.sc (.bool b_1)))))],[]⟩) ?_ ?_
    ·simp only [List.take_succ_cons,List.take_zero]
     refine qE (fun hc'=>?_) (fun hc'=>?_)
     ·replace gh0':=(ifT hc').symm.trans gh0'
      refine ops H' ?_
      obtain ⟨x55,hy',gh0'⟩:=zbi gh0'
      refine zR H' (fun _=>[]) (W_strings_Contains _ _ _ hy') ?_
      refine ops H' ?_
      obtain rfl:=zso gh0'
      refine zG ?_
      exact ⟨rfl,shd [57] [] 1 rfl⟩
     ·replace gh0':=(ifF hc').symm.trans gh0'
      refine ops H' ?_
      obtain rfl:=zso gh0'
      refine zG ?_
      exact ⟨rfl,shd [57] [] 1 rfl⟩
    ·rintro e' rfl
     simp only [List.drop_succ_cons,List.drop_zero]
     refine ops H' ?_
     refine zE ?_
     refine zN ?_
     obtain rfl:=zso h0'
     exact zO H' rfl rfl
theorem W_impl_idAt_c1 (n:T_impl_Name) (c:Int) (r':Bool) (h0':impl_idAt_c1 n c=some r'):Fn X 222 [.agg [.sc (.string n.Path),.sc (.int .i64 n.Id),.sc (.int .i64 n.Version)],.one (.box false [.sc (.int .i64 c)])] [.one (.sc (.bool r'))] []:=by
 have H':=And.intro t3 (t45)
 unfold impl_idAt_c1 at h0'
 refine Fn.start (fn:=f222) (N:=8) (res:=[.tmp 3]) rfl rfl rfl rfl rfl (by simp) ?_
 refine zU H' ?_
 refine zB ?_
 refine zA ?_
 refine ops H' ?_
 refine zE ?_
 refine zB ?_
 refine zA ?_
 refine ops H' ?_
 refine zE ?_
 refine zN ?_
 obtain rfl:=zso h0'
 exact zO H' rfl rfl
theorem W_slices_IndexFunc_impl_Name_impl_Name__1 (s:List T_impl_Name) (f:T_impl_Name→Option Bool) (f_f:Nat) (f_c0:V) (f_h:∀ (z0':T_impl_Name) r',f z0'=some r'→Fn X f_f [.agg [.sc (.string z0'.Path),.sc (.int .i64 z0'.Id),.sc (.int .i64 z0'.Version)],.one (f_c0)] [.one (.sc (.bool r'))] []) (r':Int) (h0':qW s f=some r'):Fn X 220 [.one (.list false 3 (List.map (zJ true) s)),.one (.fn f_f [f_c0])] [.one (.sc (.int .i64 r'))] []:=by
 have H':=And.intro t3 (And.intro t41 (And.intro t45 (zZ)))
 unfold qW at h0'
 refine Fn.start (fn:=f220) (N:=19) (res:=[.tmp 4]) rfl rfl rfl rfl rfl (by simp) ?_
 refine zU H' ?_
 refine zB ?_
 refine zA ?_
 refine ops H' ?_
 refine zE ?_
 refine zV (fun e'=>jM=some r'∧e'=⟨19,2,2,[],[]⟩) ?_ ?_
 ·refine zB ?_
  refine zA ?_
  refine ops H' ?_
  refine zE ?_
  obtain ⟨p,hl',h0'⟩:=zbi h0'
  refine zI ?_
  refine zS (fun x8 e'=>e'=⟨19,2,2,[(0,.pl (.one (.v (.list false 3 (List.map (zJ true) s))))),(1,.pl (.one (.v (.fn f_f [f_c0])))),(7,.pl (.one (.v (.sc (.int .i64 (s.length:Int)))))),(8,.pl (.one (.v (.sc (.int .i64 x8)))))],[]⟩) hl' (shd [0,1,7,8] [] 2 rfl) ?_
  rintro x8 y1' e' h1' rfl
  replace h1':qQ s f x8=some y1':=h1'
  unfold qQ at h1'
  refine zB ?_
  refine zA ?_
  refine ops H' ?_
  refine zE ?_
  refine zB ?_
  refine zH (fun hc'=>?_) (fun hc'=>?_)
  ·replace h1':=(ifT hc').symm.trans h1'
   refine zM ?_
   refine zB ?_
   refine zI ?_
   refine zB ?_
   refine zA ?_
   refine ops H' ?_
   refine zE ?_
   refine zB ?_
   refine zA ?_
   obtain ⟨x,hv',h1'⟩:=zbi h1'
   have H':=And.intro (zP hv') H'
   refine ops H' ?_
   obtain ⟨x16,hy',h1'⟩:=zbi h1'
   refine zR H' (fun _=>[]) (f_h _ _ hy') ?_
   refine zE ?_
   refine zH (fun hc'=>?_) (fun hc'=>?_)
   ·replace h1':=(ifT hc').symm.trans h1'
    refine zB ?_
    refine zA ?_
    refine ops H' ?_
    refine zE ?_
    refine zN ?_
    obtain rfl:=zso h1'
    refine ⟨_,rfl,fun hr'=>?_⟩
    subst hr'
    obtain rfl:=zso h0'
    exact zO H' rfl rfl
   ·replace h1':=(ifF hc').symm.trans h1'
    refine zM ?_
    refine zA ?_
    refine ops H' ?_
    refine zE ?_
    obtain rfl:=zso h1'
    exact shd [0,1,7,8] [] 2 ⟨_,rfl,rfl⟩
  ·replace h1':=(ifF hc').symm.trans h1'
   refine qJ ?_
   obtain rfl:=zso h1'
   refine ⟨_,rfl,fun hr'=>?_⟩
   subst hr'
   exact shd [] [] 2 ⟨h0',rfl⟩
 ·rintro e' ⟨h0',rfl⟩
  unfold jM at h0'
  refine zB ?_
  refine zA ?_
  refine ops H' ?_
  refine zE ?_
  refine zN ?_
  obtain rfl:=zso h0'
  exact zO H' rfl rfl
theorem W_impl_idAt (list_:List T_impl_Name) (id:Int) (r':Int) (h0':impl_idAt list_ id=some r'):Fn X 156 [.one (.list false 3 (List.map (zJ true) list_)),.one (.sc (.int .i64 id))] [.one (.sc (.int .i64 r'))] []:=by
 have H':=zZ
 unfold impl_idAt at h0'
 refine Fn.start (fn:=f156) (N:=8) (res:=[.tmp 4]) rfl rfl rfl rfl rfl (by simp) ?_
 refine zU H' ?_
 refine zB ?_
 refine zA ?_
 refine ops H' ?_
 refine zE ?_
 refine zB ?_
 refine zA ?_
 refine ops H' ?_
 refine opsV_frz H' 2 ?_
 refine opsV_mkF H' ?_
 obtain ⟨x7,hy',h0'⟩:=zbi h0'
 refine zR H' (fun _=>[]) (W_slices_IndexFunc_impl_Name_impl_Name__1 _ (fun z0'=>impl_idAt_c1 z0' id) _ _ (fun z0' r' h'=>W_impl_idAt_c1 z0' _ r' h') _ hy') ?_
 refine ops H' ?_
 refine zE ?_
 refine zN ?_
 obtain rfl:=zso h0'
 exact zO H' rfl rfl
end Go.TV.KFnExactFileLog
