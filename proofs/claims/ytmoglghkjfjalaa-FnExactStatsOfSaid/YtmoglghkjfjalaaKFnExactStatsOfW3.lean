/- Walks. -/
import Derived.Test.YtmoglghkjfjalaaKFnExactStatsOfE
import Derived.Test.YtmoglghkjfjalaaKFnExactStatsOfW2
set_option linter.unusedVariables false
set_option linter.unusedSimpArgs false
set_option maxHeartbeats 8000000
set_option maxRecDepth 100000
namespace Go.TV.KFnExactStatsOf
attribute [local irreducible] anyV wpV opsV Does thenV blockV RetL quV seqV
open Go.Proofs.Try Go.TV.F
theorem W_spec_StatsOf (s:T_impl_Store) (r':T_impl_Stats×Bool) (h0':spec_StatsOf s=some r'):Fn X 28 [.agg [.list false 3 (List.map (zD false) s.Commits),.list false 2 (List.map (zE false) s.Files)]] [.agg [.sc (.int .i64 r'.1.Commits),.sc (.int .i64 r'.1.Files),.sc (.int .i64 r'.1.Versions),.sc (.int .i64 r'.1.Bodies),.sc (.int .i64 r'.1.Whole),.sc (.int .i64 r'.1.Bytes)],.one (.sc (.bool r'.2))] []:=by
 have H':=And.intro t3 (And.intro t9 (And.intro t30 (And.intro t31 (And.intro t33 (And.intro t36 (And.intro t57 (And.intro t60 (And.intro t61 (And.intro t63 (And.intro t110 (And.intro R_Li64 (And.intro qK (And.intro qP (And.intro qM (And.intro jA (And.intro R_i64 (R_s)))))))))))))))))
 unfold spec_StatsOf at h0'
 refine Fn.start (fn:=f28) (N:=80) (res:=[.cell 2 57,.tmp 3]) rfl rfl rfl rfl rfl (by simp) ?_
 refine zW H' ?_
 refine zB ?_
 refine zA ?_
 refine ops H' ?_
 refine zF ?_
 refine zB ?_
 refine zB ?_
 refine zA ?_
 refine ops H' ?_
 obtain ⟨x10,hy',h0'⟩:=zbi h0'
 refine zY H' (fun _=>[]) (W_spec_StoreOk _ _ hy') ?_
 refine ops H' ?_
 refine zF ?_
 refine zH (fun hc'=>?_) (fun hc'=>?_)
 ·replace h0':=(ifT hc').symm.trans h0'
  refine zB ?_
  refine zA ?_
  refine ops H' ?_
  refine zF ?_
  refine zN ?_
  obtain rfl:=zso h0'
  exact outC H' rfl rfl
 ·replace h0':=(ifF hc').symm.trans h0'
  refine zM ?_
  refine zB ?_
  refine zA ?_
  refine ops H' ?_
  refine zF ?_
  refine zU (fun e'=>∃ t t_1 t_2 t_3,spec_StatsOf_j1 s t t_1 t_2 t_3=some r'∧e'=⟨80,2,4,[(2,.pl (.one (.ref 2 []))),(4,.pl (.one (.ref 3 [])))],[(2,.box true [.sc (.int .i64 0),.sc (.int .i64 0),.sc (.int .i64 0),.sc (.int .i64 0),.sc (.int .i64 0),.sc (.int .i64 0)]),(3,.box true [.sc (.int .i64 (s.Commits.length:Int)),.sc (.int .i64 (s.Files.length:Int)),.sc (.int .i64 t),.sc (.int .i64 t_1),.sc (.int .i64 t_2),.sc (.int .i64 t_3)])]⟩) ?_ ?_
  ·refine zB ?_
   refine zA ?_
   refine ops H' ?_
   refine zF ?_
   obtain ⟨p,hl',h0'⟩:=zbi h0'
   refine zI ?_
   refine zR (fun s' e'=>∃ i t_4 t_5 t_6 t_7,s'=(i,t_4,t_5,t_6,t_7)∧e'=⟨80,2,5,[(1,.pl (.one (.ref 2 []))),(2,.pl (.one (.ref 3 []))),(4,.pl (.one (.ref 4 []))),(5,.pl (.one (.v (.sc (.int .i64 i)))))],[(2,.box true [.list false 3 (List.map (zD false) s.Commits),.list false 2 (List.map (zE false) s.Files)]),(3,.box true [.sc (.int .i64 0),.sc (.int .i64 0),.sc (.int .i64 0),.sc (.int .i64 0),.sc (.int .i64 0),.sc (.int .i64 0)]),(4,.box true [.sc (.int .i64 (s.Commits.length:Int)),.sc (.int .i64 (s.Files.length:Int)),.sc (.int .i64 t_4),.sc (.int .i64 t_5),.sc (.int .i64 t_6),.sc (.int .i64 t_7)])]⟩) hl' (shd [1,2,4,5] [(2,2),(3,3),(5,4)] 5 ⟨_,_,_,_,_,rfl,rfl⟩) ?_
   rintro s' y1' e' h1' ⟨i,t_4,t_5,t_6,t_7,rfl,rfl⟩
   replace h1':spec_StatsOf_l1 s i t_4 t_5 t_6 t_7=some y1':=h1'
   unfold spec_StatsOf_l1 at h1'
   refine zB ?_
   refine zB ?_
   refine zA ?_
   refine ops H' ?_
   refine zF ?_
   refine zH (fun hc'=>?_) (fun hc'=>?_)
   ·replace h1':=(ifT hc').symm.trans h1'
    refine zM ?_
    refine zU (fun e'=>∃ t_8 t_9 t_10 t_11,spec_StatsOf_j2 i t_8 t_9 t_10 t_11=some y1'∧e'=⟨80,2,5,[(1,.pl (.one (.ref 2 []))),(2,.pl (.one (.ref 3 []))),(4,.pl (.one (.ref 4 []))),(5,.pl (.one (.v (.sc (.int .i64 i)))))],[(2,.box true [.list false 3 (List.map (zD false) s.Commits),.list false 2 (List.map (zE false) s.Files)]),(3,.box true [.sc (.int .i64 0),.sc (.int .i64 0),.sc (.int .i64 0),.sc (.int .i64 0),.sc (.int .i64 0),.sc (.int .i64 0)]),(4,.box true [.sc (.int .i64 (s.Commits.length:Int)),.sc (.int .i64 (s.Files.length:Int)),.sc (.int .i64 t_8),.sc (.int .i64 t_9),.sc (.int .i64 t_10),.sc (.int .i64 t_11)])]⟩) ?_ ?_
    ·refine zI ?_
     refine zB ?_
     refine zA ?_
     obtain ⟨x,hv',h1'⟩:=zbi h1'
     have H':=And.intro (zS hv') H'
     refine ops H' ?_
     refine zF ?_
     refine zB ?_
     refine zA ?_
     refine ops H' ?_
     refine zF ?_
     refine zB ?_
     refine zA ?_
     refine ops H' ?_
     refine zF ?_
     refine zU (fun e'=>∃ t_12,spec_StatsOf_j3 i t_4 t_5 t_7 x t_12=some y1'∧e'=⟨80,2,6,[(1,.pl (.one (.ref 2 []))),(2,.pl (.one (.ref 3 []))),(4,.pl (.one (.ref 4 []))),(5,.pl (.one (.v (.sc (.int .i64 i))))),(6,.pl (.one (.ref 5 [])))],[(2,.box true [.list false 3 (List.map (zD false) s.Commits),.list false 2 (List.map (zE false) s.Files)]),(3,.box true [.sc (.int .i64 0),.sc (.int .i64 0),.sc (.int .i64 0),.sc (.int .i64 0),.sc (.int .i64 0),.sc (.int .i64 0)]),(4,.box true [.sc (.int .i64 (s.Commits.length:Int)),.sc (.int .i64 (s.Files.length:Int)),.sc (.int .i64 (wk .i64 (t_4+(x.Parents.length:Int)))),.sc (.int .i64 (wk .i64 (t_5+(x.Bodies.length:Int)))),.sc (.int .i64 t_12),.sc (.int .i64 t_7)]),(5,.box true [.list false 1 (List.map (rL false 1 (rK .i64)) x.Parents),.list false 4 (List.map (zC false) x.Bodies)])]⟩) ?_ ?_
     ·refine zB ?_
      refine zA ?_
      refine ops H' ?_
      refine zF ?_
      obtain ⟨p_2,hl',h1'⟩:=zbi h1'
      refine zI ?_
      refine zR (fun s' e'=>∃ v t_14,s'=(v,t_14)∧e'=⟨80,2,6,[(1,.pl (.one (.ref 2 []))),(2,.pl (.one (.ref 3 []))),(4,.pl (.one (.ref 4 []))),(5,.pl (.one (.v (.sc (.int .i64 i))))),(6,.pl (.one (.ref 5 []))),(7,.pl (.one (.v (.sc (.int .i64 v)))))],[(2,.box true [.list false 3 (List.map (zD false) s.Commits),.list false 2 (List.map (zE false) s.Files)]),(3,.box true [.sc (.int .i64 0),.sc (.int .i64 0),.sc (.int .i64 0),.sc (.int .i64 0),.sc (.int .i64 0),.sc (.int .i64 0)]),(4,.box true [.sc (.int .i64 (s.Commits.length:Int)),.sc (.int .i64 (s.Files.length:Int)),.sc (.int .i64 (wk .i64 (t_4+(x.Parents.length:Int)))),.sc (.int .i64 (wk .i64 (t_5+(x.Bodies.length:Int)))),.sc (.int .i64 t_14),.sc (.int .i64 t_7)]),(5,.box true [.list false 1 (List.map (rL false 1 (rK .i64)) x.Parents),.list false 4 (List.map (zC false) x.Bodies)])]⟩) hl' (shd [1,2,4,5,6,7] [(2,2),(3,3),(4,4),(5,5)] 6 ⟨_,_,rfl,rfl⟩) ?_
      rintro s' y2' e' h2' ⟨v,t_14,rfl,rfl⟩
      replace h2':spec_StatsOf_l3 x v t_14=some y2':=h2'
      unfold spec_StatsOf_l3 at h2'
      refine zB ?_
      refine zB ?_
      refine zA ?_
      refine ops H' ?_
      refine zF ?_
      refine zH (fun hc'=>?_) (fun hc'=>?_)
      ·replace h2':=(ifT hc').symm.trans h2'
       refine zM ?_
       refine zB ?_
       refine zI ?_
       obtain ⟨x57,hy_x57,h2'⟩:=zbi h2'
       refine wpV_J (fun e'=>e'=⟨80,2,6,[(1,.pl (.one (.ref 2 []))),(2,.pl (.one (.ref 3 []))),(4,.pl (.one (.ref 4 []))),(5,.pl (.one (.v (.sc (.int .i64 i))))),(6,.pl (.one (.ref 5 []))),(7,.pl (.one (.v (.sc (.int .i64 v)))))],[(2,.box true [.list false 3 (List.map (zD false) s.Commits),.list false 2 (List.map (zE false) s.Files)]),(3,.box true [.sc (.int .i64 0),.sc (.int .i64 0),.sc (.int .i64 0),.sc (.int .i64 0),.sc (.int .i64 0),.sc (.int .i64 0)]),(4,.box true [.sc (.int .i64 (s.Commits.length:Int)),.sc (.int .i64 (s.Files.length:Int)),.sc (.int .i64 (wk .i64 (t_4+(x.Parents.length:Int)))),.sc (.int .i64 (wk .i64 (t_5+(x.Bodies.length:Int)))),.sc (.int .i64 (wk .i64 (t_14+(x57.length:Int)))),.sc (.int .i64 t_7)]),(5,.box true [.list false 1 (List.map (rL false 1 (rK .i64)) x.Parents),.list false 4 (List.map (zC false) x.Bodies)])]⟩) ?_ ?_
       ·refine regAnyF [(1,54,.pl (.one (.v (.sc (.int .i64 t_14))))),(2,55,.pl (.agg [.v (.list false 1 (List.map (rL false 1 (rK .i64)) x.Parents)),.v (.list false 4 (List.map (zC false) x.Bodies))])),(5,58,.pl (.one (.v (.sc (.int .i64 (x57.length:Int)))))),(6,59,.pl (.one (.v (.sc (.int .i64 (wk .i64 (t_14+(x57.length:Int))))))))] ?_
        refine (?_:anyF X ?ops13_1_0 _ _ ?P13_1_0 _)
        have d13_1_0_0':anyF X ?ops13_1_0 [0,1,2,3,4,5,6,7,8] [] ?P13_1_0 ⟨80,2,6,[(1,.pl (.one (.ref 2 []))),(2,.pl (.one (.ref 3 []))),(4,.pl (.one (.ref 4 []))),(5,.pl (.one (.v (.sc (.int .i64 i))))),(6,.pl (.one (.ref 5 []))),(7,.pl (.one (.v (.sc (.int .i64 v)))))],[(2,.box true [.list false 3 (List.map (zD false) s.Commits),.list false 2 (List.map (zE false) s.Files)]),(3,.box true [.sc (.int .i64 0),.sc (.int .i64 0),.sc (.int .i64 0),.sc (.int .i64 0),.sc (.int .i64 0),.sc (.int .i64 0)]),(4,.box true [.sc (.int .i64 (s.Commits.length:Int)),.sc (.int .i64 (s.Files.length:Int)),.sc (.int .i64 (wk .i64 (t_4+(x.Parents.length:Int)))),.sc (.int .i64 (wk .i64 (t_5+(x.Bodies.length:Int)))),.sc (.int .i64 (wk .i64 (t_14+(x57.length:Int)))),.sc (.int .i64 t_7)]),(5,.box true [.list false 1 (List.map (rL false 1 (rK .i64)) x.Parents),.list false 4 (List.map (zC false) x.Bodies)])]⟩:=by
         refine fend (e2:=⟨80,2,6,[(1,.pl (.one (.ref 2 []))),(2,.pl (.one (.ref 3 []))),(4,.pl (.one (.ref 4 []))),(5,.pl (.one (.v (.sc (.int .i64 i))))),(6,.pl (.one (.ref 5 []))),(7,.pl (.one (.v (.sc (.int .i64 v)))))],[(2,.box true [.list false 3 (List.map (zD false) s.Commits),.list false 2 (List.map (zE false) s.Files)]),(3,.box true [.sc (.int .i64 0),.sc (.int .i64 0),.sc (.int .i64 0),.sc (.int .i64 0),.sc (.int .i64 0),.sc (.int .i64 0)]),(4,.box true [.sc (.int .i64 (s.Commits.length:Int)),.sc (.int .i64 (s.Files.length:Int)),.sc (.int .i64 (wk .i64 (t_4+(x.Parents.length:Int)))),.sc (.int .i64 (wk .i64 (t_5+(x.Bodies.length:Int)))),.sc (.int .i64 (wk .i64 (t_14+(x57.length:Int)))),.sc (.int .i64 t_7)]),(5,.box true [.list false 1 (List.map (rL false 1 (rK .i64)) x.Parents),.list false 4 (List.map (zC false) x.Bodies)])]⟩) [] [] [] [] trivial ⟨rfl,shd [1,2,4,5,6,7] [(2,2),(3,3),(4,4),(5,5)] 6 rfl⟩
        have d13_1_0_1':anyF X ?ops13_1_0 [0,1,2,3,4,5,6,7] [] ?P13_1_0 ⟨80,2,6,[(1,.pl (.one (.ref 2 []))),(2,.pl (.one (.ref 3 []))),(4,.pl (.one (.ref 4 []))),(5,.pl (.one (.v (.sc (.int .i64 i))))),(6,.pl (.one (.ref 5 []))),(7,.pl (.one (.v (.sc (.int .i64 v))))),(59,.pl (.one (.v (.sc (.int .i64 (wk .i64 (t_14+(x57.length:Int)))))))),(60,.pl (.one (.addr 4 [] 0 0 4)))],[(2,.box true [.list false 3 (List.map (zD false) s.Commits),.list false 2 (List.map (zE false) s.Files)]),(3,.box true [.sc (.int .i64 0),.sc (.int .i64 0),.sc (.int .i64 0),.sc (.int .i64 0),.sc (.int .i64 0),.sc (.int .i64 0)]),(4,.box true [.sc (.int .i64 (s.Commits.length:Int)),.sc (.int .i64 (s.Files.length:Int)),.sc (.int .i64 (wk .i64 (t_4+(x.Parents.length:Int)))),.sc (.int .i64 (wk .i64 (t_5+(x.Bodies.length:Int)))),.sc (.int .i64 t_14),.sc (.int .i64 t_7)]),(5,.box true [.list false 1 (List.map (rL false 1 (rK .i64)) x.Parents),.list false 4 (List.map (zC false) x.Bodies)])]⟩:=by
         refine fnode [] [.m 8 [] [0,1,2,3,4,5,6,7,8] []] [] [(8,false,[],[0,1,2,3,4,5,6,7,8])] ⟨?_,trivial⟩
         ·refine obMx ⟨80,2,6,[(1,.pl (.one (.ref 2 []))),(2,.pl (.one (.ref 3 []))),(4,.pl (.one (.ref 4 []))),(5,.pl (.one (.v (.sc (.int .i64 i))))),(6,.pl (.one (.ref 5 []))),(7,.pl (.one (.v (.sc (.int .i64 v))))),(59,.pl (.one (.v (.sc (.int .i64 (wk .i64 (t_14+(x57.length:Int)))))))),(60,.pl (.one (.addr 4 [] 0 0 4)))],[(2,.box true [.list false 3 (List.map (zD false) s.Commits),.list false 2 (List.map (zE false) s.Files)]),(3,.box true [.sc (.int .i64 0),.sc (.int .i64 0),.sc (.int .i64 0),.sc (.int .i64 0),.sc (.int .i64 0),.sc (.int .i64 0)]),(4,.box true [.sc (.int .i64 (s.Commits.length:Int)),.sc (.int .i64 (s.Files.length:Int)),.sc (.int .i64 (wk .i64 (t_4+(x.Parents.length:Int)))),.sc (.int .i64 (wk .i64 (t_5+(x.Bodies.length:Int)))),.sc (.int .i64 t_14),.sc (.int .i64 t_7)]),(5,.box true [.list false 1 (List.map (rL false 1 (rK .i64)) x.Parents),.list false 4 (List.map (zC false) x.Bodies)])]⟩ ?_
          refine ops H' ?_
          refine zG ⟨rfl,.inl ⟨rfl,?_⟩⟩
          exact qF [1,2,4,5,6,7] [(2,2),(3,3),(4,4),(5,5)] 6 d13_1_0_0'
        have d13_1_0_2':anyF X ?ops13_1_0 [0,2,3,4] [(1,54,.pl (.one (.v (.sc (.int .i64 t_14))))),(5,58,.pl (.one (.v (.sc (.int .i64 (x57.length:Int)))))),(6,59,.pl (.one (.v (.sc (.int .i64 (wk .i64 (t_14+(x57.length:Int))))))))] ?P13_1_0 ⟨80,2,7,[(1,.pl (.one (.ref 2 []))),(2,.pl (.one (.ref 3 []))),(4,.pl (.one (.ref 4 []))),(5,.pl (.one (.v (.sc (.int .i64 i))))),(6,.pl (.one (.ref 5 []))),(7,.pl (.one (.v (.sc (.int .i64 v))))),(53,.pl (.one (.addr 4 [] 0 0 4))),(57,.pl (.one (.ref 6 [])))],[(2,.box true [.list false 3 (List.map (zD false) s.Commits),.list false 2 (List.map (zE false) s.Files)]),(3,.box true [.sc (.int .i64 0),.sc (.int .i64 0),.sc (.int .i64 0),.sc (.int .i64 0),.sc (.int .i64 0),.sc (.int .i64 0)]),(4,.box true [.sc (.int .i64 (s.Commits.length:Int)),.sc (.int .i64 (s.Files.length:Int)),.sc (.int .i64 (wk .i64 (t_4+(x.Parents.length:Int)))),.sc (.int .i64 (wk .i64 (t_5+(x.Bodies.length:Int)))),.sc (.int .i64 t_14),.sc (.int .i64 t_7)]),(5,.box true [.list false 1 (List.map (rL false 1 (rK .i64)) x.Parents),.list false 4 (List.map (zC false) x.Bodies)]),(6,.list true 1 (List.map rS x57))]⟩:=by
         refine fnode [1,5,6] [.q 1 54 (.pl (.one (.v (.sc (.int .i64 t_14))))) [],.q 5 58 (.pl (.one (.v (.sc (.int .i64 (x57.length:Int)))))) [],.q 6 59 (.pl (.one (.v (.sc (.int .i64 (wk .i64 (t_14+(x57.length:Int)))))))) [1,5],.m 7 [1,5,6] [0,1,2,3,4,5,6,7] []] [(1,54),(5,58),(6,59)] [(1,true,[],[]),(5,true,[],[]),(6,true,[1,5],[]),(7,false,[1,5,6],[0,1,2,3,4,5,6,7])] ⟨?_,?_,?_,?_,trivial⟩
         ·refine zV 0 ⟨80,2,7,[(1,.pl (.one (.ref 2 []))),(2,.pl (.one (.ref 3 []))),(4,.pl (.one (.ref 4 []))),(5,.pl (.one (.v (.sc (.int .i64 i))))),(6,.pl (.one (.ref 5 []))),(7,.pl (.one (.v (.sc (.int .i64 v))))),(53,.pl (.one (.addr 4 [] 0 0 4))),(57,.pl (.one (.ref 6 [])))],[(2,.box true [.list false 3 (List.map (zD false) s.Commits),.list false 2 (List.map (zE false) s.Files)]),(3,.box true [.sc (.int .i64 0),.sc (.int .i64 0),.sc (.int .i64 0),.sc (.int .i64 0),.sc (.int .i64 0),.sc (.int .i64 0)]),(4,.box true [.sc (.int .i64 (s.Commits.length:Int)),.sc (.int .i64 (s.Files.length:Int)),.sc (.int .i64 (wk .i64 (t_4+(x.Parents.length:Int)))),.sc (.int .i64 (wk .i64 (t_5+(x.Bodies.length:Int)))),.sc (.int .i64 t_14),.sc (.int .i64 t_7)]),(5,.box true [.list false 1 (List.map (rL false 1 (rK .i64)) x.Parents),.list false 4 (List.map (zC false) x.Bodies)]),(6,.list true 1 (List.map rS x57))]⟩ ?_
          refine ops H' ?_
          refine zG ⟨rfl,shd [54,1,2,4,5,6,7,53,57] [(2,2),(3,3),(4,4),(5,5),(6,6)] 7 rfl⟩
         ·refine zV 1 ⟨80,2,7,[(1,.pl (.one (.ref 2 []))),(2,.pl (.one (.ref 3 []))),(4,.pl (.one (.ref 4 []))),(5,.pl (.one (.v (.sc (.int .i64 i))))),(6,.pl (.one (.ref 5 []))),(7,.pl (.one (.v (.sc (.int .i64 v))))),(53,.pl (.one (.addr 4 [] 0 0 4))),(57,.pl (.one (.ref 6 [])))],[(2,.box true [.list false 3 (List.map (zD false) s.Commits),.list false 2 (List.map (zE false) s.Files)]),(3,.box true [.sc (.int .i64 0),.sc (.int .i64 0),.sc (.int .i64 0),.sc (.int .i64 0),.sc (.int .i64 0),.sc (.int .i64 0)]),(4,.box true [.sc (.int .i64 (s.Commits.length:Int)),.sc (.int .i64 (s.Files.length:Int)),.sc (.int .i64 (wk .i64 (t_4+(x.Parents.length:Int)))),.sc (.int .i64 (wk .i64 (t_5+(x.Bodies.length:Int)))),.sc (.int .i64 t_14),.sc (.int .i64 t_7)]),(5,.box true [.list false 1 (List.map (rL false 1 (rK .i64)) x.Parents),.list false 4 (List.map (zC false) x.Bodies)]),(6,.list true 1 (List.map rS x57))]⟩ ?_
          refine ops H' ?_
          refine zG ⟨rfl,shd [58,1,2,4,5,6,7,53,57] [(2,2),(3,3),(4,4),(5,5),(6,6)] 7 rfl⟩
         ·refine zV 2 ⟨80,2,7,[(54,.pl (.one (.v (.sc (.int .i64 t_14))))),(58,.pl (.one (.v (.sc (.int .i64 (x57.length:Int)))))),(1,.pl (.one (.ref 2 []))),(2,.pl (.one (.ref 3 []))),(4,.pl (.one (.ref 4 []))),(5,.pl (.one (.v (.sc (.int .i64 i))))),(6,.pl (.one (.ref 5 []))),(7,.pl (.one (.v (.sc (.int .i64 v))))),(53,.pl (.one (.addr 4 [] 0 0 4))),(57,.pl (.one (.ref 6 [])))],[(2,.box true [.list false 3 (List.map (zD false) s.Commits),.list false 2 (List.map (zE false) s.Files)]),(3,.box true [.sc (.int .i64 0),.sc (.int .i64 0),.sc (.int .i64 0),.sc (.int .i64 0),.sc (.int .i64 0),.sc (.int .i64 0)]),(4,.box true [.sc (.int .i64 (s.Commits.length:Int)),.sc (.int .i64 (s.Files.length:Int)),.sc (.int .i64 (wk .i64 (t_4+(x.Parents.length:Int)))),.sc (.int .i64 (wk .i64 (t_5+(x.Bodies.length:Int)))),.sc (.int .i64 t_14),.sc (.int .i64 t_7)]),(5,.box true [.list false 1 (List.map (rL false 1 (rK .i64)) x.Parents),.list false 4 (List.map (zC false) x.Bodies)]),(6,.list true 1 (List.map rS x57))]⟩ ?_
          refine ops H' ?_
          refine zG ⟨rfl,shd [59,1,2,4,5,6,7,53,57] [(2,2),(3,3),(4,4),(5,5),(6,6)] 7 rfl⟩
         ·refine obMx ⟨80,2,7,[(54,.pl (.one (.v (.sc (.int .i64 t_14))))),(58,.pl (.one (.v (.sc (.int .i64 (x57.length:Int)))))),(59,.pl (.one (.v (.sc (.int .i64 (wk .i64 (t_14+(x57.length:Int)))))))),(1,.pl (.one (.ref 2 []))),(2,.pl (.one (.ref 3 []))),(4,.pl (.one (.ref 4 []))),(5,.pl (.one (.v (.sc (.int .i64 i))))),(6,.pl (.one (.ref 5 []))),(7,.pl (.one (.v (.sc (.int .i64 v))))),(53,.pl (.one (.addr 4 [] 0 0 4))),(57,.pl (.one (.ref 6 [])))],[(2,.box true [.list false 3 (List.map (zD false) s.Commits),.list false 2 (List.map (zE false) s.Files)]),(3,.box true [.sc (.int .i64 0),.sc (.int .i64 0),.sc (.int .i64 0),.sc (.int .i64 0),.sc (.int .i64 0),.sc (.int .i64 0)]),(4,.box true [.sc (.int .i64 (s.Commits.length:Int)),.sc (.int .i64 (s.Files.length:Int)),.sc (.int .i64 (wk .i64 (t_4+(x.Parents.length:Int)))),.sc (.int .i64 (wk .i64 (t_5+(x.Bodies.length:Int)))),.sc (.int .i64 t_14),.sc (.int .i64 t_7)]),(5,.box true [.list false 1 (List.map (rL false 1 (rK .i64)) x.Parents),.list false 4 (List.map (zC false) x.Bodies)]),(6,.list true 1 (List.map rS x57))]⟩ ?_
          refine ops H' ?_
          refine zG ⟨rfl,.inl ⟨rfl,?_⟩⟩
          exact qF [1,2,4,5,6,7,59,60] [(2,2),(3,3),(4,4),(5,5)] 6 d13_1_0_1'
        have d13_1_0_3':anyF X ?ops13_1_0 [0,3] [(1,54,.pl (.one (.v (.sc (.int .i64 t_14))))),(2,55,.pl (.agg [.v (.list false 1 (List.map (rL false 1 (rK .i64)) x.Parents)),.v (.list false 4 (List.map (zC false) x.Bodies))])),(5,58,.pl (.one (.v (.sc (.int .i64 (x57.length:Int)))))),(6,59,.pl (.one (.v (.sc (.int .i64 (wk .i64 (t_14+(x57.length:Int))))))))] ?P13_1_0 ⟨80,2,6,[(1,.pl (.one (.ref 2 []))),(2,.pl (.one (.ref 3 []))),(4,.pl (.one (.ref 4 []))),(5,.pl (.one (.v (.sc (.int .i64 i))))),(6,.pl (.one (.ref 5 []))),(7,.pl (.one (.v (.sc (.int .i64 v))))),(53,.pl (.one (.addr 4 [] 0 0 4))),(56,.pl (.one (.v (.sc (.int .i64 v)))))],[(2,.box true [.list false 3 (List.map (zD false) s.Commits),.list false 2 (List.map (zE false) s.Files)]),(3,.box true [.sc (.int .i64 0),.sc (.int .i64 0),.sc (.int .i64 0),.sc (.int .i64 0),.sc (.int .i64 0),.sc (.int .i64 0)]),(4,.box true [.sc (.int .i64 (s.Commits.length:Int)),.sc (.int .i64 (s.Files.length:Int)),.sc (.int .i64 (wk .i64 (t_4+(x.Parents.length:Int)))),.sc (.int .i64 (wk .i64 (t_5+(x.Bodies.length:Int)))),.sc (.int .i64 t_14),.sc (.int .i64 t_7)]),(5,.box true [.list false 1 (List.map (rL false 1 (rK .i64)) x.Parents),.list false 4 (List.map (zC false) x.Bodies)])]⟩:=by
         refine fnode [1,2] [.q 1 54 (.pl (.one (.v (.sc (.int .i64 t_14))))) [],.q 2 55 (.pl (.agg [.v (.list false 1 (List.map (rL false 1 (rK .i64)) x.Parents)),.v (.list false 4 (List.map (zC false) x.Bodies))])) [],.m 4 [2] [0,2,3,4] [(1,54,.pl (.one (.v (.sc (.int .i64 t_14))))),(5,58,.pl (.one (.v (.sc (.int .i64 (x57.length:Int)))))),(6,59,.pl (.one (.v (.sc (.int .i64 (wk .i64 (t_14+(x57.length:Int))))))))]] [(1,54),(2,55),(5,58),(6,59)] [(1,true,[],[]),(2,true,[],[]),(4,false,[2],[0,2,3,4])] ⟨?_,?_,?_,trivial⟩
         ·refine zV 0 ⟨80,2,6,[(1,.pl (.one (.ref 2 []))),(2,.pl (.one (.ref 3 []))),(4,.pl (.one (.ref 4 []))),(5,.pl (.one (.v (.sc (.int .i64 i))))),(6,.pl (.one (.ref 5 []))),(7,.pl (.one (.v (.sc (.int .i64 v))))),(53,.pl (.one (.addr 4 [] 0 0 4))),(56,.pl (.one (.v (.sc (.int .i64 v)))))],[(2,.box true [.list false 3 (List.map (zD false) s.Commits),.list false 2 (List.map (zE false) s.Files)]),(3,.box true [.sc (.int .i64 0),.sc (.int .i64 0),.sc (.int .i64 0),.sc (.int .i64 0),.sc (.int .i64 0),.sc (.int .i64 0)]),(4,.box true [.sc (.int .i64 (s.Commits.length:Int)),.sc (.int .i64 (s.Files.length:Int)),.sc (.int .i64 (wk .i64 (t_4+(x.Parents.length:Int)))),.sc (.int .i64 (wk .i64 (t_5+(x.Bodies.length:Int)))),.sc (.int .i64 t_14),.sc (.int .i64 t_7)]),(5,.box true [.list false 1 (List.map (rL false 1 (rK .i64)) x.Parents),.list false 4 (List.map (zC false) x.Bodies)])]⟩ ?_
          refine ops H' ?_
          refine zG ⟨rfl,shd [54,1,2,4,5,6,7,53,56] [(2,2),(3,3),(4,4),(5,5)] 6 rfl⟩
         ·refine zV 1 ⟨80,2,6,[(1,.pl (.one (.ref 2 []))),(2,.pl (.one (.ref 3 []))),(4,.pl (.one (.ref 4 []))),(5,.pl (.one (.v (.sc (.int .i64 i))))),(6,.pl (.one (.ref 5 []))),(7,.pl (.one (.v (.sc (.int .i64 v))))),(53,.pl (.one (.addr 4 [] 0 0 4))),(56,.pl (.one (.v (.sc (.int .i64 v)))))],[(2,.box true [.list false 3 (List.map (zD false) s.Commits),.list false 2 (List.map (zE false) s.Files)]),(3,.box true [.sc (.int .i64 0),.sc (.int .i64 0),.sc (.int .i64 0),.sc (.int .i64 0),.sc (.int .i64 0),.sc (.int .i64 0)]),(4,.box true [.sc (.int .i64 (s.Commits.length:Int)),.sc (.int .i64 (s.Files.length:Int)),.sc (.int .i64 (wk .i64 (t_4+(x.Parents.length:Int)))),.sc (.int .i64 (wk .i64 (t_5+(x.Bodies.length:Int)))),.sc (.int .i64 t_14),.sc (.int .i64 t_7)]),(5,.box true [.list false 1 (List.map (rL false 1 (rK .i64)) x.Parents),.list false 4 (List.map (zC false) x.Bodies)])]⟩ ?_
          refine ops H' ?_
          refine zG ⟨rfl,shd [55,1,2,4,5,6,7,53,56] [(2,2),(3,3),(4,4),(5,5)] 6 rfl⟩
         ·refine obMx ⟨80,2,6,[(55,.pl (.agg [.v (.list false 1 (List.map (rL false 1 (rK .i64)) x.Parents)),.v (.list false 4 (List.map (zC false) x.Bodies))])),(1,.pl (.one (.ref 2 []))),(2,.pl (.one (.ref 3 []))),(4,.pl (.one (.ref 4 []))),(5,.pl (.one (.v (.sc (.int .i64 i))))),(6,.pl (.one (.ref 5 []))),(7,.pl (.one (.v (.sc (.int .i64 v))))),(53,.pl (.one (.addr 4 [] 0 0 4))),(56,.pl (.one (.v (.sc (.int .i64 v)))))],[(2,.box true [.list false 3 (List.map (zD false) s.Commits),.list false 2 (List.map (zE false) s.Files)]),(3,.box true [.sc (.int .i64 0),.sc (.int .i64 0),.sc (.int .i64 0),.sc (.int .i64 0),.sc (.int .i64 0),.sc (.int .i64 0)]),(4,.box true [.sc (.int .i64 (s.Commits.length:Int)),.sc (.int .i64 (s.Files.length:Int)),.sc (.int .i64 (wk .i64 (t_4+(x.Parents.length:Int)))),.sc (.int .i64 (wk .i64 (t_5+(x.Bodies.length:Int)))),.sc (.int .i64 t_14),.sc (.int .i64 t_7)]),(5,.box true [.list false 1 (List.map (rL false 1 (rK .i64)) x.Parents),.list false 4 (List.map (zC false) x.Bodies)])]⟩ ?_
          refine zY H' (fun _=>[]) (W_spec_l06Text _ _ _ hy_x57) ?_
          refine zG ⟨rfl,.inl ⟨rfl,?_⟩⟩
          exact qF [1,2,4,5,6,7,53,57] [(2,2),(3,3),(4,4),(5,5),(6,6)] 7 d13_1_0_2'
        refine fpure H' 0 [0] [(1,54),(2,55),(5,58),(6,59)] ?_
        refine fpure H' 3 [0,3] [(1,54),(2,55),(5,58),(6,59)] ?_
        exact qF [1,2,4,5,6,7,53,56] [(2,2),(3,3),(4,4),(5,5)] 6 d13_1_0_3'
       ·rintro e' rfl
        refine contN ?_
        refine zA ?_
        refine ops H' ?_
        refine zF ?_
        obtain rfl:=zso h2'
        exact shd [1,2,4,5,6,7] [(2,2),(3,3),(4,4),(5,5)] 6 ⟨_,rfl,_,_,rfl,rfl⟩
      ·replace h2':=(ifF hc').symm.trans h2'
       refine qJ ?_
       obtain rfl:=zso h2'
       refine ⟨_,rfl,fun hr'=>?_⟩
       subst hr'
       exact shd [1,2,4,5,6] [(2,2),(3,3),(4,4),(5,5)] 6 ⟨_,h1',rfl⟩
     ·rintro e' ⟨t_12,h1',rfl⟩
      unfold spec_StatsOf_j3 at h1'
      refine zB ?_
      refine zA ?_
      refine ops H' ?_
      refine zF ?_
      obtain ⟨p_1,hl',h1'⟩:=zbi h1'
      refine zI ?_
      refine zR (fun s' e'=>∃ k t_13,s'=(k,t_13)∧e'=⟨80,2,6,[(1,.pl (.one (.ref 2 []))),(2,.pl (.one (.ref 3 []))),(4,.pl (.one (.ref 4 []))),(5,.pl (.one (.v (.sc (.int .i64 i))))),(6,.pl (.one (.ref 5 []))),(8,.pl (.one (.v (.sc (.int .i64 k)))))],[(2,.box true [.list false 3 (List.map (zD false) s.Commits),.list false 2 (List.map (zE false) s.Files)]),(3,.box true [.sc (.int .i64 0),.sc (.int .i64 0),.sc (.int .i64 0),.sc (.int .i64 0),.sc (.int .i64 0),.sc (.int .i64 0)]),(4,.box true [.sc (.int .i64 (s.Commits.length:Int)),.sc (.int .i64 (s.Files.length:Int)),.sc (.int .i64 (wk .i64 (t_4+(x.Parents.length:Int)))),.sc (.int .i64 (wk .i64 (t_5+(x.Bodies.length:Int)))),.sc (.int .i64 t_12),.sc (.int .i64 t_13)]),(5,.box true [.list false 1 (List.map (rL false 1 (rK .i64)) x.Parents),.list false 4 (List.map (zC false) x.Bodies)])]⟩) hl' (shd [1,2,4,5,6,8] [(2,2),(3,3),(4,4),(5,5)] 6 ⟨_,_,rfl,rfl⟩) ?_
      rintro s' y2' e' h2' ⟨k,t_13,rfl,rfl⟩
      replace h2':spec_StatsOf_l2 x k t_13=some y2':=h2'
      unfold spec_StatsOf_l2 at h2'
      refine zB ?_
      refine zB ?_
      refine zA ?_
      refine ops H' ?_
      refine zF ?_
      refine zH (fun hc'=>?_) (fun hc'=>?_)
      ·replace h2':=(ifT hc').symm.trans h2'
       refine zM ?_
       refine zB ?_
       refine zI ?_
       obtain ⟨x_1,hv',h2'⟩:=zbi h2'
       have H':=And.intro (zS hv') H'
       refine wpV_J (fun e'=>e'=⟨80,2,6,[(1,.pl (.one (.ref 2 []))),(2,.pl (.one (.ref 3 []))),(4,.pl (.one (.ref 4 []))),(5,.pl (.one (.v (.sc (.int .i64 i))))),(6,.pl (.one (.ref 5 []))),(8,.pl (.one (.v (.sc (.int .i64 k)))))],[(2,.box true [.list false 3 (List.map (zD false) s.Commits),.list false 2 (List.map (zE false) s.Files)]),(3,.box true [.sc (.int .i64 0),.sc (.int .i64 0),.sc (.int .i64 0),.sc (.int .i64 0),.sc (.int .i64 0),.sc (.int .i64 0)]),(4,.box true [.sc (.int .i64 (s.Commits.length:Int)),.sc (.int .i64 (s.Files.length:Int)),.sc (.int .i64 (wk .i64 (t_4+(x.Parents.length:Int)))),.sc (.int .i64 (wk .i64 (t_5+(x.Bodies.length:Int)))),.sc (.int .i64 t_12),.sc (.int .i64 (wk .i64 (t_13+(x_1.Line.size:Int))))]),(5,.box true [.list false 1 (List.map (rL false 1 (rK .i64)) x.Parents),.list false 4 (List.map (zC false) x.Bodies)])]⟩) ?_ ?_
       ·refine regAnyF [(1,69,.pl (.one (.v (.sc (.int .i64 t_13))))),(3,71,.pl (.one (.v (.list false 4 (List.map (zC false) x.Bodies))))),(5,73,.pl (.one (.ba [.sc (.string x_1.Line),.sc (.int .i64 x_1.Ins),.sc (.int .i64 x_1.Ord),.list false 1 (List.map (rK .i64) x_1.Dels)]))),(6,74,.pl (.one (.ba [.sc (.string x_1.Line),.sc (.int .i64 x_1.Ins),.sc (.int .i64 x_1.Ord),.list false 1 (List.map (rK .i64) x_1.Dels)]))),(7,75,.pl (.one (.v (.sc (.string x_1.Line))))),(8,76,.pl (.one (.v (.sc (.int .i64 (x_1.Line.size:Int)))))),(9,77,.pl (.one (.v (.sc (.int .i64 (wk .i64 (t_13+(x_1.Line.size:Int))))))))] ?_
        refine (?_:anyF X ?ops17_0_0 _ _ ?P17_0_0 _)
        have d17_0_0_0':anyF X ?ops17_0_0 [0,1,2,3,4,5,6,7,8,9,10,11] [] ?P17_0_0 ⟨80,2,6,[(1,.pl (.one (.ref 2 []))),(2,.pl (.one (.ref 3 []))),(4,.pl (.one (.ref 4 []))),(5,.pl (.one (.v (.sc (.int .i64 i))))),(6,.pl (.one (.ref 5 []))),(8,.pl (.one (.v (.sc (.int .i64 k)))))],[(2,.box true [.list false 3 (List.map (zD false) s.Commits),.list false 2 (List.map (zE false) s.Files)]),(3,.box true [.sc (.int .i64 0),.sc (.int .i64 0),.sc (.int .i64 0),.sc (.int .i64 0),.sc (.int .i64 0),.sc (.int .i64 0)]),(4,.box true [.sc (.int .i64 (s.Commits.length:Int)),.sc (.int .i64 (s.Files.length:Int)),.sc (.int .i64 (wk .i64 (t_4+(x.Parents.length:Int)))),.sc (.int .i64 (wk .i64 (t_5+(x.Bodies.length:Int)))),.sc (.int .i64 t_12),.sc (.int .i64 (wk .i64 (t_13+(x_1.Line.size:Int))))]),(5,.box true [.list false 1 (List.map (rL false 1 (rK .i64)) x.Parents),.list false 4 (List.map (zC false) x.Bodies)])]⟩:=by
         refine fend (e2:=⟨80,2,6,[(1,.pl (.one (.ref 2 []))),(2,.pl (.one (.ref 3 []))),(4,.pl (.one (.ref 4 []))),(5,.pl (.one (.v (.sc (.int .i64 i))))),(6,.pl (.one (.ref 5 []))),(8,.pl (.one (.v (.sc (.int .i64 k)))))],[(2,.box true [.list false 3 (List.map (zD false) s.Commits),.list false 2 (List.map (zE false) s.Files)]),(3,.box true [.sc (.int .i64 0),.sc (.int .i64 0),.sc (.int .i64 0),.sc (.int .i64 0),.sc (.int .i64 0),.sc (.int .i64 0)]),(4,.box true [.sc (.int .i64 (s.Commits.length:Int)),.sc (.int .i64 (s.Files.length:Int)),.sc (.int .i64 (wk .i64 (t_4+(x.Parents.length:Int)))),.sc (.int .i64 (wk .i64 (t_5+(x.Bodies.length:Int)))),.sc (.int .i64 t_12),.sc (.int .i64 (wk .i64 (t_13+(x_1.Line.size:Int))))]),(5,.box true [.list false 1 (List.map (rL false 1 (rK .i64)) x.Parents),.list false 4 (List.map (zC false) x.Bodies)])]⟩) [] [] [] [] trivial ⟨rfl,shd [1,2,4,5,6,8] [(2,2),(3,3),(4,4),(5,5)] 6 rfl⟩
        have d17_0_0_1':anyF X ?ops17_0_0 [0,1,2,3,4,5,6,7,8,9,10] [] ?P17_0_0 ⟨80,2,6,[(1,.pl (.one (.ref 2 []))),(2,.pl (.one (.ref 3 []))),(4,.pl (.one (.ref 4 []))),(5,.pl (.one (.v (.sc (.int .i64 i))))),(6,.pl (.one (.ref 5 []))),(8,.pl (.one (.v (.sc (.int .i64 k))))),(77,.pl (.one (.v (.sc (.int .i64 (wk .i64 (t_13+(x_1.Line.size:Int)))))))),(78,.pl (.one (.addr 4 [] 0 0 5)))],[(2,.box true [.list false 3 (List.map (zD false) s.Commits),.list false 2 (List.map (zE false) s.Files)]),(3,.box true [.sc (.int .i64 0),.sc (.int .i64 0),.sc (.int .i64 0),.sc (.int .i64 0),.sc (.int .i64 0),.sc (.int .i64 0)]),(4,.box true [.sc (.int .i64 (s.Commits.length:Int)),.sc (.int .i64 (s.Files.length:Int)),.sc (.int .i64 (wk .i64 (t_4+(x.Parents.length:Int)))),.sc (.int .i64 (wk .i64 (t_5+(x.Bodies.length:Int)))),.sc (.int .i64 t_12),.sc (.int .i64 t_13)]),(5,.box true [.list false 1 (List.map (rL false 1 (rK .i64)) x.Parents),.list false 4 (List.map (zC false) x.Bodies)])]⟩:=by
         refine fnode [] [.m 11 [] [0,1,2,3,4,5,6,7,8,9,10,11] []] [] [(11,false,[],[0,1,2,3,4,5,6,7,8,9,10,11])] ⟨?_,trivial⟩
         ·refine obMx ⟨80,2,6,[(1,.pl (.one (.ref 2 []))),(2,.pl (.one (.ref 3 []))),(4,.pl (.one (.ref 4 []))),(5,.pl (.one (.v (.sc (.int .i64 i))))),(6,.pl (.one (.ref 5 []))),(8,.pl (.one (.v (.sc (.int .i64 k))))),(77,.pl (.one (.v (.sc (.int .i64 (wk .i64 (t_13+(x_1.Line.size:Int)))))))),(78,.pl (.one (.addr 4 [] 0 0 5)))],[(2,.box true [.list false 3 (List.map (zD false) s.Commits),.list false 2 (List.map (zE false) s.Files)]),(3,.box true [.sc (.int .i64 0),.sc (.int .i64 0),.sc (.int .i64 0),.sc (.int .i64 0),.sc (.int .i64 0),.sc (.int .i64 0)]),(4,.box true [.sc (.int .i64 (s.Commits.length:Int)),.sc (.int .i64 (s.Files.length:Int)),.sc (.int .i64 (wk .i64 (t_4+(x.Parents.length:Int)))),.sc (.int .i64 (wk .i64 (t_5+(x.Bodies.length:Int)))),.sc (.int .i64 t_12),.sc (.int .i64 t_13)]),(5,.box true [.list false 1 (List.map (rL false 1 (rK .i64)) x.Parents),.list false 4 (List.map (zC false) x.Bodies)])]⟩ ?_
          refine ops H' ?_
          refine zG ⟨rfl,.inl ⟨rfl,?_⟩⟩
          exact qF [1,2,4,5,6,8] [(2,2),(3,3),(4,4),(5,5)] 6 d17_0_0_0'
        have d17_0_0_2':anyF X ?ops17_0_0 [0,2,4] [(1,69,.pl (.one (.v (.sc (.int .i64 t_13))))),(3,71,.pl (.one (.v (.list false 4 (List.map (zC false) x.Bodies))))),(5,73,.pl (.one (.ba [.sc (.string x_1.Line),.sc (.int .i64 x_1.Ins),.sc (.int .i64 x_1.Ord),.list false 1 (List.map (rK .i64) x_1.Dels)]))),(6,74,.pl (.one (.ba [.sc (.string x_1.Line),.sc (.int .i64 x_1.Ins),.sc (.int .i64 x_1.Ord),.list false 1 (List.map (rK .i64) x_1.Dels)]))),(7,75,.pl (.one (.v (.sc (.string x_1.Line))))),(8,76,.pl (.one (.v (.sc (.int .i64 (x_1.Line.size:Int)))))),(9,77,.pl (.one (.v (.sc (.int .i64 (wk .i64 (t_13+(x_1.Line.size:Int))))))))] ?P17_0_0 ⟨80,2,6,[(1,.pl (.one (.ref 2 []))),(2,.pl (.one (.ref 3 []))),(4,.pl (.one (.ref 4 []))),(5,.pl (.one (.v (.sc (.int .i64 i))))),(6,.pl (.one (.ref 5 []))),(8,.pl (.one (.v (.sc (.int .i64 k))))),(68,.pl (.one (.addr 4 [] 0 0 5))),(70,.pl (.one (.addr 5 [] 0 0 1))),(72,.pl (.one (.v (.sc (.int .i64 k)))))],[(2,.box true [.list false 3 (List.map (zD false) s.Commits),.list false 2 (List.map (zE false) s.Files)]),(3,.box true [.sc (.int .i64 0),.sc (.int .i64 0),.sc (.int .i64 0),.sc (.int .i64 0),.sc (.int .i64 0),.sc (.int .i64 0)]),(4,.box true [.sc (.int .i64 (s.Commits.length:Int)),.sc (.int .i64 (s.Files.length:Int)),.sc (.int .i64 (wk .i64 (t_4+(x.Parents.length:Int)))),.sc (.int .i64 (wk .i64 (t_5+(x.Bodies.length:Int)))),.sc (.int .i64 t_12),.sc (.int .i64 t_13)]),(5,.box true [.list false 1 (List.map (rL false 1 (rK .i64)) x.Parents),.list false 4 (List.map (zC false) x.Bodies)])]⟩:=by
         refine fnode [1,3,5,6,7,8,9] [.q 1 69 (.pl (.one (.v (.sc (.int .i64 t_13))))) [],.q 3 71 (.pl (.one (.v (.list false 4 (List.map (zC false) x.Bodies))))) [],.q 5 73 (.pl (.one (.ba [.sc (.string x_1.Line),.sc (.int .i64 x_1.Ins),.sc (.int .i64 x_1.Ord),.list false 1 (List.map (rK .i64) x_1.Dels)]))) [3],.q 6 74 (.pl (.one (.ba [.sc (.string x_1.Line),.sc (.int .i64 x_1.Ins),.sc (.int .i64 x_1.Ord),.list false 1 (List.map (rK .i64) x_1.Dels)]))) [5],.q 7 75 (.pl (.one (.v (.sc (.string x_1.Line))))) [6],.q 8 76 (.pl (.one (.v (.sc (.int .i64 (x_1.Line.size:Int)))))) [7],.q 9 77 (.pl (.one (.v (.sc (.int .i64 (wk .i64 (t_13+(x_1.Line.size:Int)))))))) [1,8],.m 10 [1,3,5,6,7,8,9] [0,1,2,3,4,5,6,7,8,9,10] []] [(1,69),(3,71),(5,73),(6,74),(7,75),(8,76),(9,77)] [(1,true,[],[]),(3,true,[],[]),(5,true,[3],[]),(6,true,[5],[]),(7,true,[6],[]),(8,true,[7],[]),(9,true,[1,8],[]),(10,false,[1,3,5,6,7,8,9],[0,1,2,3,4,5,6,7,8,9,10])] ⟨?_,?_,?_,?_,?_,?_,?_,?_,trivial⟩
         ·refine zV 0 ⟨80,2,6,[(1,.pl (.one (.ref 2 []))),(2,.pl (.one (.ref 3 []))),(4,.pl (.one (.ref 4 []))),(5,.pl (.one (.v (.sc (.int .i64 i))))),(6,.pl (.one (.ref 5 []))),(8,.pl (.one (.v (.sc (.int .i64 k))))),(68,.pl (.one (.addr 4 [] 0 0 5))),(70,.pl (.one (.addr 5 [] 0 0 1))),(72,.pl (.one (.v (.sc (.int .i64 k)))))],[(2,.box true [.list false 3 (List.map (zD false) s.Commits),.list false 2 (List.map (zE false) s.Files)]),(3,.box true [.sc (.int .i64 0),.sc (.int .i64 0),.sc (.int .i64 0),.sc (.int .i64 0),.sc (.int .i64 0),.sc (.int .i64 0)]),(4,.box true [.sc (.int .i64 (s.Commits.length:Int)),.sc (.int .i64 (s.Files.length:Int)),.sc (.int .i64 (wk .i64 (t_4+(x.Parents.length:Int)))),.sc (.int .i64 (wk .i64 (t_5+(x.Bodies.length:Int)))),.sc (.int .i64 t_12),.sc (.int .i64 t_13)]),(5,.box true [.list false 1 (List.map (rL false 1 (rK .i64)) x.Parents),.list false 4 (List.map (zC false) x.Bodies)])]⟩ ?_
          refine ops H' ?_
          refine zG ⟨rfl,shd [69,1,2,4,5,6,8,68,70,72] [(2,2),(3,3),(4,4),(5,5)] 6 rfl⟩
         ·refine zV 1 ⟨80,2,6,[(1,.pl (.one (.ref 2 []))),(2,.pl (.one (.ref 3 []))),(4,.pl (.one (.ref 4 []))),(5,.pl (.one (.v (.sc (.int .i64 i))))),(6,.pl (.one (.ref 5 []))),(8,.pl (.one (.v (.sc (.int .i64 k))))),(68,.pl (.one (.addr 4 [] 0 0 5))),(70,.pl (.one (.addr 5 [] 0 0 1))),(72,.pl (.one (.v (.sc (.int .i64 k)))))],[(2,.box true [.list false 3 (List.map (zD false) s.Commits),.list false 2 (List.map (zE false) s.Files)]),(3,.box true [.sc (.int .i64 0),.sc (.int .i64 0),.sc (.int .i64 0),.sc (.int .i64 0),.sc (.int .i64 0),.sc (.int .i64 0)]),(4,.box true [.sc (.int .i64 (s.Commits.length:Int)),.sc (.int .i64 (s.Files.length:Int)),.sc (.int .i64 (wk .i64 (t_4+(x.Parents.length:Int)))),.sc (.int .i64 (wk .i64 (t_5+(x.Bodies.length:Int)))),.sc (.int .i64 t_12),.sc (.int .i64 t_13)]),(5,.box true [.list false 1 (List.map (rL false 1 (rK .i64)) x.Parents),.list false 4 (List.map (zC false) x.Bodies)])]⟩ ?_
          refine ops H' ?_
          refine zG ⟨rfl,shd [71,1,2,4,5,6,8,68,70,72] [(2,2),(3,3),(4,4),(5,5)] 6 rfl⟩
         ·refine zV 2 ⟨80,2,6,[(71,.pl (.one (.v (.list false 4 (List.map (zC false) x.Bodies))))),(1,.pl (.one (.ref 2 []))),(2,.pl (.one (.ref 3 []))),(4,.pl (.one (.ref 4 []))),(5,.pl (.one (.v (.sc (.int .i64 i))))),(6,.pl (.one (.ref 5 []))),(8,.pl (.one (.v (.sc (.int .i64 k))))),(68,.pl (.one (.addr 4 [] 0 0 5))),(70,.pl (.one (.addr 5 [] 0 0 1))),(72,.pl (.one (.v (.sc (.int .i64 k)))))],[(2,.box true [.list false 3 (List.map (zD false) s.Commits),.list false 2 (List.map (zE false) s.Files)]),(3,.box true [.sc (.int .i64 0),.sc (.int .i64 0),.sc (.int .i64 0),.sc (.int .i64 0),.sc (.int .i64 0),.sc (.int .i64 0)]),(4,.box true [.sc (.int .i64 (s.Commits.length:Int)),.sc (.int .i64 (s.Files.length:Int)),.sc (.int .i64 (wk .i64 (t_4+(x.Parents.length:Int)))),.sc (.int .i64 (wk .i64 (t_5+(x.Bodies.length:Int)))),.sc (.int .i64 t_12),.sc (.int .i64 t_13)]),(5,.box true [.list false 1 (List.map (rL false 1 (rK .i64)) x.Parents),.list false 4 (List.map (zC false) x.Bodies)])]⟩ ?_
          refine ops H' ?_
          refine zG ⟨rfl,shd [73,1,2,4,5,6,8,68,70,72] [(2,2),(3,3),(4,4),(5,5)] 6 rfl⟩
         ·refine zV 3 ⟨80,2,6,[(73,.pl (.one (.ba [.sc (.string x_1.Line),.sc (.int .i64 x_1.Ins),.sc (.int .i64 x_1.Ord),.list false 1 (List.map (rK .i64) x_1.Dels)]))),(1,.pl (.one (.ref 2 []))),(2,.pl (.one (.ref 3 []))),(4,.pl (.one (.ref 4 []))),(5,.pl (.one (.v (.sc (.int .i64 i))))),(6,.pl (.one (.ref 5 []))),(8,.pl (.one (.v (.sc (.int .i64 k))))),(68,.pl (.one (.addr 4 [] 0 0 5))),(70,.pl (.one (.addr 5 [] 0 0 1))),(72,.pl (.one (.v (.sc (.int .i64 k)))))],[(2,.box true [.list false 3 (List.map (zD false) s.Commits),.list false 2 (List.map (zE false) s.Files)]),(3,.box true [.sc (.int .i64 0),.sc (.int .i64 0),.sc (.int .i64 0),.sc (.int .i64 0),.sc (.int .i64 0),.sc (.int .i64 0)]),(4,.box true [.sc (.int .i64 (s.Commits.length:Int)),.sc (.int .i64 (s.Files.length:Int)),.sc (.int .i64 (wk .i64 (t_4+(x.Parents.length:Int)))),.sc (.int .i64 (wk .i64 (t_5+(x.Bodies.length:Int)))),.sc (.int .i64 t_12),.sc (.int .i64 t_13)]),(5,.box true [.list false 1 (List.map (rL false 1 (rK .i64)) x.Parents),.list false 4 (List.map (zC false) x.Bodies)])]⟩ ?_
          refine ops H' ?_
          refine zG ⟨rfl,shd [74,1,2,4,5,6,8,68,70,72] [(2,2),(3,3),(4,4),(5,5)] 6 rfl⟩
         ·refine zV 4 ⟨80,2,6,[(74,.pl (.one (.ba [.sc (.string x_1.Line),.sc (.int .i64 x_1.Ins),.sc (.int .i64 x_1.Ord),.list false 1 (List.map (rK .i64) x_1.Dels)]))),(1,.pl (.one (.ref 2 []))),(2,.pl (.one (.ref 3 []))),(4,.pl (.one (.ref 4 []))),(5,.pl (.one (.v (.sc (.int .i64 i))))),(6,.pl (.one (.ref 5 []))),(8,.pl (.one (.v (.sc (.int .i64 k))))),(68,.pl (.one (.addr 4 [] 0 0 5))),(70,.pl (.one (.addr 5 [] 0 0 1))),(72,.pl (.one (.v (.sc (.int .i64 k)))))],[(2,.box true [.list false 3 (List.map (zD false) s.Commits),.list false 2 (List.map (zE false) s.Files)]),(3,.box true [.sc (.int .i64 0),.sc (.int .i64 0),.sc (.int .i64 0),.sc (.int .i64 0),.sc (.int .i64 0),.sc (.int .i64 0)]),(4,.box true [.sc (.int .i64 (s.Commits.length:Int)),.sc (.int .i64 (s.Files.length:Int)),.sc (.int .i64 (wk .i64 (t_4+(x.Parents.length:Int)))),.sc (.int .i64 (wk .i64 (t_5+(x.Bodies.length:Int)))),.sc (.int .i64 t_12),.sc (.int .i64 t_13)]),(5,.box true [.list false 1 (List.map (rL false 1 (rK .i64)) x.Parents),.list false 4 (List.map (zC false) x.Bodies)])]⟩ ?_
          refine ops H' ?_
          refine zG ⟨rfl,shd [75,1,2,4,5,6,8,68,70,72] [(2,2),(3,3),(4,4),(5,5)] 6 rfl⟩
         ·refine zV 5 ⟨80,2,6,[(75,.pl (.one (.v (.sc (.string x_1.Line))))),(1,.pl (.one (.ref 2 []))),(2,.pl (.one (.ref 3 []))),(4,.pl (.one (.ref 4 []))),(5,.pl (.one (.v (.sc (.int .i64 i))))),(6,.pl (.one (.ref 5 []))),(8,.pl (.one (.v (.sc (.int .i64 k))))),(68,.pl (.one (.addr 4 [] 0 0 5))),(70,.pl (.one (.addr 5 [] 0 0 1))),(72,.pl (.one (.v (.sc (.int .i64 k)))))],[(2,.box true [.list false 3 (List.map (zD false) s.Commits),.list false 2 (List.map (zE false) s.Files)]),(3,.box true [.sc (.int .i64 0),.sc (.int .i64 0),.sc (.int .i64 0),.sc (.int .i64 0),.sc (.int .i64 0),.sc (.int .i64 0)]),(4,.box true [.sc (.int .i64 (s.Commits.length:Int)),.sc (.int .i64 (s.Files.length:Int)),.sc (.int .i64 (wk .i64 (t_4+(x.Parents.length:Int)))),.sc (.int .i64 (wk .i64 (t_5+(x.Bodies.length:Int)))),.sc (.int .i64 t_12),.sc (.int .i64 t_13)]),(5,.box true [.list false 1 (List.map (rL false 1 (rK .i64)) x.Parents),.list false 4 (List.map (zC false) x.Bodies)])]⟩ ?_
          refine ops H' ?_
          refine zG ⟨rfl,shd [76,1,2,4,5,6,8,68,70,72] [(2,2),(3,3),(4,4),(5,5)] 6 rfl⟩
         ·refine zV 6 ⟨80,2,6,[(69,.pl (.one (.v (.sc (.int .i64 t_13))))),(76,.pl (.one (.v (.sc (.int .i64 (x_1.Line.size:Int)))))),(1,.pl (.one (.ref 2 []))),(2,.pl (.one (.ref 3 []))),(4,.pl (.one (.ref 4 []))),(5,.pl (.one (.v (.sc (.int .i64 i))))),(6,.pl (.one (.ref 5 []))),(8,.pl (.one (.v (.sc (.int .i64 k))))),(68,.pl (.one (.addr 4 [] 0 0 5))),(70,.pl (.one (.addr 5 [] 0 0 1))),(72,.pl (.one (.v (.sc (.int .i64 k)))))],[(2,.box true [.list false 3 (List.map (zD false) s.Commits),.list false 2 (List.map (zE false) s.Files)]),(3,.box true [.sc (.int .i64 0),.sc (.int .i64 0),.sc (.int .i64 0),.sc (.int .i64 0),.sc (.int .i64 0),.sc (.int .i64 0)]),(4,.box true [.sc (.int .i64 (s.Commits.length:Int)),.sc (.int .i64 (s.Files.length:Int)),.sc (.int .i64 (wk .i64 (t_4+(x.Parents.length:Int)))),.sc (.int .i64 (wk .i64 (t_5+(x.Bodies.length:Int)))),.sc (.int .i64 t_12),.sc (.int .i64 t_13)]),(5,.box true [.list false 1 (List.map (rL false 1 (rK .i64)) x.Parents),.list false 4 (List.map (zC false) x.Bodies)])]⟩ ?_
          refine ops H' ?_
          refine zG ⟨rfl,shd [77,1,2,4,5,6,8,68,70,72] [(2,2),(3,3),(4,4),(5,5)] 6 rfl⟩
         ·refine obMx ⟨80,2,6,[(69,.pl (.one (.v (.sc (.int .i64 t_13))))),(71,.pl (.one (.v (.list false 4 (List.map (zC false) x.Bodies))))),(73,.pl (.one (.ba [.sc (.string x_1.Line),.sc (.int .i64 x_1.Ins),.sc (.int .i64 x_1.Ord),.list false 1 (List.map (rK .i64) x_1.Dels)]))),(74,.pl (.one (.ba [.sc (.string x_1.Line),.sc (.int .i64 x_1.Ins),.sc (.int .i64 x_1.Ord),.list false 1 (List.map (rK .i64) x_1.Dels)]))),(75,.pl (.one (.v (.sc (.string x_1.Line))))),(76,.pl (.one (.v (.sc (.int .i64 (x_1.Line.size:Int)))))),(77,.pl (.one (.v (.sc (.int .i64 (wk .i64 (t_13+(x_1.Line.size:Int)))))))),(1,.pl (.one (.ref 2 []))),(2,.pl (.one (.ref 3 []))),(4,.pl (.one (.ref 4 []))),(5,.pl (.one (.v (.sc (.int .i64 i))))),(6,.pl (.one (.ref 5 []))),(8,.pl (.one (.v (.sc (.int .i64 k))))),(68,.pl (.one (.addr 4 [] 0 0 5))),(70,.pl (.one (.addr 5 [] 0 0 1))),(72,.pl (.one (.v (.sc (.int .i64 k)))))],[(2,.box true [.list false 3 (List.map (zD false) s.Commits),.list false 2 (List.map (zE false) s.Files)]),(3,.box true [.sc (.int .i64 0),.sc (.int .i64 0),.sc (.int .i64 0),.sc (.int .i64 0),.sc (.int .i64 0),.sc (.int .i64 0)]),(4,.box true [.sc (.int .i64 (s.Commits.length:Int)),.sc (.int .i64 (s.Files.length:Int)),.sc (.int .i64 (wk .i64 (t_4+(x.Parents.length:Int)))),.sc (.int .i64 (wk .i64 (t_5+(x.Bodies.length:Int)))),.sc (.int .i64 t_12),.sc (.int .i64 t_13)]),(5,.box true [.list false 1 (List.map (rL false 1 (rK .i64)) x.Parents),.list false 4 (List.map (zC false) x.Bodies)])]⟩ ?_
          refine ops H' ?_
          refine zG ⟨rfl,.inl ⟨rfl,?_⟩⟩
          exact qF [1,2,4,5,6,8,77,78] [(2,2),(3,3),(4,4),(5,5)] 6 d17_0_0_1'
        refine fpure H' 0 [0] [(1,69),(3,71),(5,73),(6,74),(7,75),(8,76),(9,77)] ?_
        refine fpure H' 2 [0,2] [(1,69),(3,71),(5,73),(6,74),(7,75),(8,76),(9,77)] ?_
        refine fpure H' 4 [0,2,4] [(1,69),(3,71),(5,73),(6,74),(7,75),(8,76),(9,77)] ?_
        exact qF [1,2,4,5,6,8,68,70,72] [(2,2),(3,3),(4,4),(5,5)] 6 d17_0_0_2'
       ·rintro e' rfl
        refine contN ?_
        refine zA ?_
        refine ops H' ?_
        refine zF ?_
        obtain rfl:=zso h2'
        exact shd [1,2,4,5,6,8] [(2,2),(3,3),(4,4),(5,5)] 6 ⟨_,rfl,_,_,rfl,rfl⟩
      ·replace h2':=(ifF hc').symm.trans h2'
       refine qJ ?_
       obtain rfl:=zso h2'
       refine ⟨_,rfl,fun hr'=>?_⟩
       subst hr'
       exact shd [1,2,4,5] [(2,2),(3,3),(4,4)] 5 ⟨_,_,_,_,h1',rfl⟩
    ·rintro e' ⟨t_8,t_9,t_10,t_11,h1',rfl⟩
     unfold spec_StatsOf_j2 at h1'
     refine zA ?_
     refine ops H' ?_
     refine zF ?_
     obtain rfl:=zso h1'
     exact shd [1,2,4,5] [(2,2),(3,3),(4,4)] 5 ⟨_,rfl,_,_,_,_,_,rfl,rfl⟩
   ·replace h1':=(ifF hc').symm.trans h1'
    refine qJ ?_
    obtain rfl:=zso h1'
    refine ⟨_,rfl,fun hr'=>?_⟩
    subst hr'
    exact shd [2,4] [(3,2),(4,3)] 4 ⟨_,_,_,_,h0',rfl⟩
  ·rintro e' ⟨t,t_1,t_2,t_3,h0',rfl⟩
   unfold spec_StatsOf_j1 at h0'
   refine zB ?_
   refine zA ?_
   refine ops H' ?_
   refine zF ?_
   refine zN ?_
   obtain rfl:=zso h0'
   exact outC H' rfl rfl
theorem W_impl_inRange (n:Int) (least:Int) (most:Int) (r':Bool) (h0':impl_inRange n least most=some r'):Fn X 105 [.one (.sc (.int .i64 n)),.one (.sc (.int .i64 least)),.one (.sc (.int .i64 most))] [.one (.sc (.bool r'))] []:=by
 have H':=t3
 unfold impl_inRange at h0'
 refine Fn.start (fn:=f105) (N:=15) (res:=[.tmp 6]) rfl rfl rfl rfl rfl (by simp) ?_
 refine zW H' ?_
 refine zB ?_
 refine zA ?_
 refine ops H' ?_
 refine zF ?_
 refine zB ?_
 refine zA ?_
 refine ops H' ?_
 obtain ⟨b,gh0',h0'⟩:=zbi h0'
 refine qE 4 (fun e'=>e'=⟨15,3,3,[(14,.pl (.one (.v (.sc (.bool b)))))],[]⟩) ?_ ?_
 ·simp only [List.take_succ_cons,List.take_zero]
  refine qI (fun hc'=>?_) (fun hc'=>?_)
  ·replace gh0':=(ifT hc').symm.trans gh0'
   refine ops H' ?_
   obtain rfl:=zso gh0'
   refine zG ?_
   exact ⟨rfl,shd [14] [] 3 rfl⟩
  ·replace gh0':=(ifF hc').symm.trans gh0'
   refine ops H' ?_
   obtain rfl:=zso gh0'
   refine zG ?_
   exact ⟨rfl,shd [14] [] 3 rfl⟩
 ·rintro e' rfl
  simp only [List.drop_succ_cons,List.drop_zero]
  refine ops H' ?_
  refine zF ?_
  refine zN ?_
  obtain rfl:=zso h0'
  exact zP H' rfl rfl
theorem W_impl_ascends (list_:List Int) (below:Int) (r':Bool) (h0':impl_ascends list_ below=some r'):Fn X 75 [.one (.list false 1 (List.map (rK .i64) list_)),.one (.sc (.int .i64 below))] [.one (.sc (.bool r'))] []:=by
 have H':=And.intro t3 (And.intro t43 (R_i64))
 unfold impl_ascends at h0'
 refine Fn.start (fn:=f75) (N:=33) (res:=[.tmp 4]) rfl rfl rfl rfl rfl (by simp) ?_
 refine zW H' ?_
 refine zB ?_
 refine zA ?_
 refine ops H' ?_
 refine zF ?_
 refine zU (fun e'=>impl_ascends_j1=some r'∧e'=⟨33,2,2,[],[]⟩) ?_ ?_
 ·refine zB ?_
  refine zA ?_
  refine ops H' ?_
  refine zF ?_
  obtain ⟨p,hl',h0'⟩:=zbi h0'
  refine zI ?_
  refine zR (fun x9 e'=>e'=⟨33,2,2,[(0,.pl (.one (.v (.list false 1 (List.map (rK .i64) list_))))),(1,.pl (.one (.v (.sc (.int .i64 below))))),(7,.pl (.one (.v (.list false 1 (List.map (rK .i64) list_))))),(8,.pl (.one (.v (.sc (.int .i64 (list_.length:Int)))))),(9,.pl (.one (.v (.sc (.int .i64 x9)))))],[]⟩) hl' (shd [0,1,7,8,9] [] 2 rfl) ?_
  rintro x9 y1' e' h1' rfl
  replace h1':jB list_ below x9=some y1':=h1'
  unfold jB at h1'
  refine zB ?_
  refine zA ?_
  refine ops H' ?_
  refine zF ?_
  refine zB ?_
  refine zH (fun hc'=>?_) (fun hc'=>?_)
  ·replace h1':=(ifT hc').symm.trans h1'
   refine zM ?_
   refine zB ?_
   refine zI ?_
   refine zB ?_
   refine zA ?_
   obtain ⟨x,hv',h1'⟩:=zbi h1'
   have H':=And.intro (zS hv') H'
   refine ops H' ?_
   refine zF ?_
   refine zB ?_
   refine zA ?_
   refine ops H' ?_
   obtain ⟨x17,hy',h1'⟩:=zbi h1'
   refine zY H' (fun _=>[]) (W_impl_inRange _ _ _ _ hy') ?_
   refine ops H' ?_
   obtain ⟨b,gh1',h1'⟩:=zbi h1'
   refine qE 12 (fun e'=>e'=⟨33,2,2,[(0,.pl (.one (.v (.list false 1 (List.map (rK .i64) list_))))),(1,.pl (.one (.v (.sc (.int .i64 below))))),(7,.pl (.one (.v (.list false 1 (List.map (rK .i64) list_))))),(8,.pl (.one (.v (.sc (.int .i64 (list_.length:Int)))))),(9,.pl (.one (.v (.sc (.int .i64 x9))))),(31,.pl (.one (.v (.sc (.bool b)))))],[]⟩) ?_ ?_
   ·simp only [List.take_succ_cons,List.take_zero]
    refine qI (fun hc'=>?_) (fun hc'=>?_)
    ·replace gh1':=(ifF hc').symm.trans gh1'
     refine ops H' ?_
     obtain ⟨b_1,ggh1',gh1'⟩:=zbi gh1'
     refine qE 8 (fun e'=>e'=⟨33,2,2,[(0,.pl (.one (.v (.list false 1 (List.map (rK .i64) list_))))),(1,.pl (.one (.v (.sc (.int .i64 below))))),(7,.pl (.one (.v (.list false 1 (List.map (rK .i64) list_))))),(8,.pl (.one (.v (.sc (.int .i64 (list_.length:Int)))))),(9,.pl (.one (.v (.sc (.int .i64 x9))))),(19,.pl (.one (.v (.sc (.bool false))))),(20,.pl (.one (.v (.sc (.int .i64 x9))))),(21,.pl (.one (.v (.sc (.bool (decide (x9 > 0))))))),(30,.pl (.one (.v (.sc (.bool b_1)))))],[]⟩) ?_ ?_
     ·simp only [List.take_succ_cons,List.take_zero]
      refine qI (fun hc'=>?_) (fun hc'=>?_)
      ·replace ggh1':=(ifT hc').symm.trans ggh1'
       obtain ⟨x_1,hv',ggh1'⟩:=zbi ggh1'
       have H':=And.intro (zS hv') H'
       refine ops H' ?_
       obtain rfl:=zso ggh1'
       refine zG ?_
       exact ⟨rfl,shd [0,1,7,8,9,19,20,21,30] [] 2 rfl⟩
      ·replace ggh1':=(ifF hc').symm.trans ggh1'
       refine ops H' ?_
       obtain rfl:=zso ggh1'
       refine zG ?_
       exact ⟨rfl,shd [0,1,7,8,9,19,20,21,30] [] 2 rfl⟩
     ·rintro e' rfl
      simp only [List.drop_succ_cons,List.drop_zero]
      refine ops H' ?_
      obtain rfl:=zso gh1'
      refine zG ?_
      exact ⟨rfl,shd [0,1,7,8,9,31] [] 2 rfl⟩
    ·replace gh1':=(ifT hc').symm.trans gh1'
     refine ops H' ?_
     obtain rfl:=zso gh1'
     refine zG ?_
     exact ⟨rfl,shd [0,1,7,8,9,31] [] 2 rfl⟩
   ·rintro e' rfl
    simp only [List.drop_succ_cons,List.drop_zero]
    refine zF ?_
    refine zH (fun hc'=>?_) (fun hc'=>?_)
    ·replace h1':=(ifT hc').symm.trans h1'
     refine zB ?_
     refine zA ?_
     refine ops H' ?_
     refine zF ?_
     refine zN ?_
     obtain rfl:=zso h1'
     refine ⟨_,rfl,fun hr'=>?_⟩
     subst hr'
     obtain rfl:=zso h0'
     exact zP H' rfl rfl
    ·replace h1':=(ifF hc').symm.trans h1'
     refine zM ?_
     refine zA ?_
     refine ops H' ?_
     refine zF ?_
     obtain rfl:=zso h1'
     exact shd [0,1,7,8,9] [] 2 ⟨_,rfl,rfl⟩
  ·replace h1':=(ifF hc').symm.trans h1'
   refine qJ ?_
   obtain rfl:=zso h1'
   refine ⟨_,rfl,fun hr'=>?_⟩
   subst hr'
   exact shd [] [] 2 ⟨h0',rfl⟩
 ·rintro e' ⟨h0',rfl⟩
  unfold impl_ascends_j1 at h0'
  refine zB ?_
  refine zA ?_
  refine ops H' ?_
  refine zF ?_
  refine zN ?_
  obtain rfl:=zso h0'
  exact zP H' rfl rfl
theorem W_impl_GraphOk (parents:List (List Int)) (r':Bool) (h0':impl_GraphOk parents=some r'):Fn X 127 [.one (.list false 1 (List.map (rL false 1 (rK .i64)) parents))] [.one (.sc (.bool r'))] []:=by
 have H':=And.intro t3 (And.intro t30 (And.intro t43 (And.intro R_Li64 (R_i64))))
 unfold impl_GraphOk at h0'
 refine Fn.start (fn:=f127) (N:=25) (res:=[.tmp 2]) rfl rfl rfl rfl rfl (by simp) ?_
 refine zW H' ?_
 refine zB ?_
 refine zA ?_
 refine ops H' ?_
 refine zF ?_
 refine zU (fun e'=>impl_GraphOk_j1 parents=some r'∧e'=⟨25,1,1,[(0,.pl (.one (.v (.list false 1 (List.map (rL false 1 (rK .i64)) parents)))))],[]⟩) ?_ ?_
 ·refine zB ?_
  refine zA ?_
  refine ops H' ?_
  refine zF ?_
  obtain ⟨p,hl',h0'⟩:=zbi h0'
  refine zI ?_
  refine zR (fun x7 e'=>e'=⟨25,1,1,[(0,.pl (.one (.v (.list false 1 (List.map (rL false 1 (rK .i64)) parents))))),(5,.pl (.one (.v (.list false 1 (List.map (rL false 1 (rK .i64)) parents))))),(6,.pl (.one (.v (.sc (.int .i64 (parents.length:Int)))))),(7,.pl (.one (.v (.sc (.int .i64 x7)))))],[]⟩) hl' (shd [0,5,6,7] [] 1 rfl) ?_
  rintro x7 y1' e' h1' rfl
  replace h1':jC parents x7=some y1':=h1'
  unfold jC at h1'
  refine zB ?_
  refine zA ?_
  refine ops H' ?_
  refine zF ?_
  refine zB ?_
  refine zH (fun hc'=>?_) (fun hc'=>?_)
  ·replace h1':=(ifT hc').symm.trans h1'
   refine zM ?_
   refine zB ?_
   refine zI ?_
   refine zB ?_
   refine zA ?_
   obtain ⟨x,hv',h1'⟩:=zbi h1'
   have H':=And.intro (zS hv') H'
   refine ops H' ?_
   refine zF ?_
   refine zB ?_
   refine zA ?_
   refine ops H' ?_
   obtain ⟨b,gh1',h1'⟩:=zbi h1'
   refine qE 5 (fun e'=>e'=⟨25,1,1,[(0,.pl (.one (.v (.list false 1 (List.map (rL false 1 (rK .i64)) parents))))),(5,.pl (.one (.v (.list false 1 (List.map (rL false 1 (rK .i64)) parents))))),(6,.pl (.one (.v (.sc (.int .i64 (parents.length:Int)))))),(7,.pl (.one (.v (.sc (.int .i64 x7))))),(20,.pl (.one (.v (.sc (.bool b)))))],[]⟩) ?_ ?_
   ·simp only [List.take_succ_cons,List.take_zero]
    refine qI (fun hc'=>?_) (fun hc'=>?_)
    ·replace gh1':=(ifF hc').symm.trans gh1'
     refine ops H' ?_
     obtain ⟨x18,hy',gh1'⟩:=zbi gh1'
     refine zY H' (fun _=>[]) (W_impl_ascends _ _ _ hy') ?_
     refine ops H' ?_
     obtain rfl:=zso gh1'
     refine zG ?_
     exact ⟨rfl,shd [0,5,6,7,20] [] 1 rfl⟩
    ·replace gh1':=(ifT hc').symm.trans gh1'
     refine ops H' ?_
     obtain rfl:=zso gh1'
     refine zG ?_
     exact ⟨rfl,shd [0,5,6,7,20] [] 1 rfl⟩
   ·rintro e' rfl
    simp only [List.drop_succ_cons,List.drop_zero]
    refine zF ?_
    refine zH (fun hc'=>?_) (fun hc'=>?_)
    ·replace h1':=(ifT hc').symm.trans h1'
     refine zB ?_
     refine zA ?_
     refine ops H' ?_
     refine zF ?_
     refine zN ?_
     obtain rfl:=zso h1'
     refine ⟨_,rfl,fun hr'=>?_⟩
     subst hr'
     obtain rfl:=zso h0'
     exact zP H' rfl rfl
    ·replace h1':=(ifF hc').symm.trans h1'
     refine zM ?_
     refine zA ?_
     refine ops H' ?_
     refine zF ?_
     obtain rfl:=zso h1'
     exact shd [0,5,6,7] [] 1 ⟨_,rfl,rfl⟩
  ·replace h1':=(ifF hc').symm.trans h1'
   refine qJ ?_
   obtain rfl:=zso h1'
   refine ⟨_,rfl,fun hr'=>?_⟩
   subst hr'
   exact shd [0] [] 1 ⟨h0',rfl⟩
 ·rintro e' ⟨h0',rfl⟩
  unfold impl_GraphOk_j1 at h0'
  refine zB ?_
  refine zA ?_
  refine ops H' ?_
  refine zF ?_
  refine zN ?_
  obtain rfl:=zso h0'
  exact zP H' rfl rfl
theorem W_impl_unionOf (closed:List Int) (list_:List Int) (r':Int) (h0':impl_unionOf closed list_=some r'):Fn X 79 [.one (.list false 1 (List.map (rK .u64) closed)),.one (.list false 1 (List.map (rK .i64) list_))] [.one (.sc (.int .u64 r'))] []:=by
 have H':=And.intro t3 (And.intro t43 (And.intro t105 (And.intro t106 (And.intro R_i64 (R_u64)))))
 unfold impl_unionOf at h0'
 refine Fn.start (fn:=f79) (N:=22) (res:=[.tmp 4]) rfl rfl rfl rfl rfl (by simp) ?_
 refine zW H' ?_
 refine zB ?_
 refine zA ?_
 refine ops H' ?_
 refine zF ?_
 refine zB ?_
 refine zA ?_
 refine ops H' ?_
 refine zF ?_
 refine zU (fun e'=>∃ s,impl_unionOf_j1 s=some r'∧e'=⟨22,2,2,[(5,.pl (.one (.v (.sc (.int .u64 s)))))],[]⟩) ?_ ?_
 ·refine zB ?_
  refine zA ?_
  refine ops H' ?_
  refine zF ?_
  obtain ⟨p,hl',h0'⟩:=zbi h0'
  refine zI ?_
  refine zR (fun s' e'=>∃ s_1 x10,s'=(s_1,x10)∧e'=⟨22,2,2,[(0,.pl (.one (.v (.list false 1 (List.map (rK .u64) closed))))),(5,.pl (.one (.v (.sc (.int .u64 s_1))))),(8,.pl (.one (.v (.list false 1 (List.map (rK .i64) list_))))),(9,.pl (.one (.v (.sc (.int .i64 (list_.length:Int)))))),(10,.pl (.one (.v (.sc (.int .i64 x10)))))],[]⟩) hl' (shd [0,5,8,9,10] [] 2 ⟨_,_,rfl,rfl⟩) ?_
  rintro s' y1' e' h1' ⟨s_1,x10,rfl,rfl⟩
  replace h1':impl_unionOf_l1 closed list_ s_1 x10=some y1':=h1'
  unfold impl_unionOf_l1 at h1'
  refine zB ?_
  refine zA ?_
  refine ops H' ?_
  refine zF ?_
  refine zB ?_
  refine zH (fun hc'=>?_) (fun hc'=>?_)
  ·replace h1':=(ifT hc').symm.trans h1'
   refine zM ?_
   refine zB ?_
   refine zI ?_
   refine zB ?_
   refine zA ?_
   obtain ⟨x,hv',h1'⟩:=zbi h1'
   have H':=And.intro (zS hv') H'
   refine ops H' ?_
   refine zF ?_
   refine zA ?_
   obtain ⟨x_1,hv',h1'⟩:=zbi h1'
   have H':=And.intro (zS hv') H'
   refine ops H' ?_
   refine zF ?_
   refine zA ?_
   refine ops H' ?_
   refine zF ?_
   obtain rfl:=zso h1'
   exact shd [0,5,8,9,10] [] 2 ⟨_,rfl,_,_,rfl,rfl⟩
  ·replace h1':=(ifF hc').symm.trans h1'
   refine qJ ?_
   obtain rfl:=zso h1'
   refine ⟨_,rfl,fun hr'=>?_⟩
   subst hr'
   exact shd [5] [] 2 ⟨_,h0',rfl⟩
 ·rintro e' ⟨s,h0',rfl⟩
  unfold impl_unionOf_j1 at h0'
  refine zB ?_
  refine zA ?_
  refine ops H' ?_
  refine zF ?_
  refine zN ?_
  obtain rfl:=zso h0'
  exact zP H' rfl rfl
theorem W_impl_closures (parents:List (List Int)) (r':(List Int)) (h0':impl_closures parents=some r'):Fn X 60 [.one (.list false 1 (List.map (rL false 1 (rK .i64)) parents))] [.one (.list true 1 (List.map (rK .u64) r'))] []:=by
 have H':=And.intro t3 (And.intro t30 (And.intro t43 (And.intro t105 (And.intro t106 (And.intro t162 (And.intro R_Li64 (And.intro R_i64 (R_u64))))))))
 unfold impl_closures at h0'
 refine Fn.start (fn:=f60) (N:=28) (res:=[.tmp 2]) rfl rfl rfl rfl rfl (by simp) ?_
 refine zW H' ?_
 refine zB ?_
 refine zA ?_
 refine ops H' ?_
 refine zF ?_
 refine zB ?_
 refine zA ?_
 obtain ⟨x8,hv',h0'⟩:=zbi h0'
 have H':=And.intro (mkl_f hv') H'
 refine ops H' ?_
 refine zF ?_
 refine zU (fun e'=>∃ out_,impl_closures_j1 out_=some r'∧e'=⟨28,1,2,[(3,.pl (.one (.ref 1 [])))],[(1,.list true 1 (List.map (rK .u64) out_))]⟩) ?_ ?_
 ·refine zB ?_
  refine zA ?_
  refine ops H' ?_
  refine zF ?_
  obtain ⟨p,hl',h0'⟩:=zbi h0'
  refine zI ?_
  refine zR (fun s' e'=>∃ x11 out__1,s'=(x11,out__1)∧e'=⟨28,1,2,[(3,.pl (.one (.ref 1 []))),(9,.pl (.one (.v (.list false 1 (List.map (rL false 1 (rK .i64)) parents))))),(10,.pl (.one (.v (.sc (.int .i64 (parents.length:Int)))))),(11,.pl (.one (.v (.sc (.int .i64 x11)))))],[(1,.list true 1 (List.map (rK .u64) out__1))]⟩) hl' (shd [3,9,10,11] [(2,1)] 2 ⟨_,_,rfl,rfl⟩) ?_
  rintro s' y1' e' h1' ⟨x11,out__1,rfl,rfl⟩
  replace h1':impl_closures_l1 parents x11 out__1=some y1':=h1'
  unfold impl_closures_l1 at h1'
  refine zB ?_
  refine zA ?_
  refine ops H' ?_
  refine zF ?_
  refine zB ?_
  refine zH (fun hc'=>?_) (fun hc'=>?_)
  ·replace h1':=(ifT hc').symm.trans h1'
   refine zM ?_
   refine zB ?_
   refine zI ?_
   refine zB ?_
   refine zA ?_
   obtain ⟨x,hv',h1'⟩:=zbi h1'
   have H':=And.intro (zS hv') H'
   refine ops H' ?_
   refine zF ?_
   refine zA ?_
   refine ops H' ?_
   obtain ⟨x20,hy',h1'⟩:=zbi h1'
   refine zY H' (fun _=>[]) (W_impl_unionOf _ _ _ hy') ?_
   obtain ⟨u,hv',h1'⟩:=zbi h1'
   have H':=And.intro (chkF hv') H'
   obtain ⟨x_1,hv',h1'⟩:=zbi h1'
   have H':=And.intro (zS hv') H'
   refine ops H' ?_
   refine zF ?_
   refine zA ?_
   refine ops H' ?_
   refine zF ?_
   obtain rfl:=zso h1'
   exact shd [3,9,10,11] [(1,1)] 2 ⟨_,rfl,_,_,rfl,rfl⟩
  ·replace h1':=(ifF hc').symm.trans h1'
   refine qJ ?_
   obtain rfl:=zso h1'
   refine ⟨_,rfl,fun hr'=>?_⟩
   subst hr'
   exact shd [3] [(1,1)] 2 ⟨_,h0',rfl⟩
 ·rintro e' ⟨out_,h0',rfl⟩
  unfold impl_closures_j1 at h0'
  refine zB ?_
  refine zA ?_
  refine ops H' ?_
  refine zF ?_
  refine zN ?_
  obtain rfl:=zso h0'
  exact zP H' rfl rfl
theorem W_strings_Contains (s:ByteArray) (x:ByteArray) (r':Bool) (h0':strings_Contains s x=some r'):Fn X 181 [.one (.sc (.string s)),.one (.sc (.string x))] [.one (.sc (.bool r'))] []:=by
 unfold strings_Contains at h0'
 split at h0'
 case isFalse=>cases h0'
 rename_i hs
 obtain rfl:=zso h0'
 exact Fn_pureB ⟨_,Go.Proofs.Try.func181,rfl,rfl⟩ (fun w hg=>by
  obtain ⟨y,hy,hy2⟩:=hg _ _ (by rfl:X.G (Go.Proofs.Try.lays144_ren.g 1)=some isNum)
  obtain ⟨m,hm⟩:=isNum_cell hy hy2
  exact Go.Proofs.Any.strings_Contains {Go.Proofs.Try.lays144 with} s x m w hs hm)
theorem W_impl_LineOk (line:ByteArray) (r':Bool) (h0':impl_LineOk line=some r'):Fn X 155 [.one (.sc (.string line))] [.one (.sc (.bool r'))] []:=by
 have H':=And.intro t3 (t9)
 unfold impl_LineOk at h0'
 refine Fn.start (fn:=f155) (N:=11) (res:=[.tmp 2]) rfl rfl rfl rfl rfl (by simp) ?_
 refine zW H' ?_
 refine zB ?_
 refine zA ?_
 refine ops H' ?_
 refine zF ?_
 refine zB ?_
 refine zA ?_
 refine ops H' ?_
 obtain ⟨b,gh0',h0'⟩:=zbi h0'
 refine qE 4 (fun e'=>e'=⟨11,1,1,[(10,.pl (.one (.v (.sc (.bool b)))))],[]⟩) ?_ ?_
 ·simp only [List.take_succ_cons,List.take_zero]
  refine qI (fun hc'=>?_) (fun hc'=>?_)
  ·replace gh0':=(ifT hc').symm.trans gh0'
   refine ops H' ?_
   obtain ⟨x8,hy',gh0'⟩:=zbi gh0'
   refine zY H' (fun _=>[]) (W_strings_Contains _ _ _ hy') ?_
   refine ops H' ?_
   obtain rfl:=zso gh0'
   refine zG ?_
   exact ⟨rfl,shd [10] [] 1 rfl⟩
  ·replace gh0':=(ifF hc').symm.trans gh0'
   refine ops H' ?_
   obtain rfl:=zso gh0'
   refine zG ?_
   exact ⟨rfl,shd [10] [] 1 rfl⟩
 ·rintro e' rfl
  simp only [List.drop_succ_cons,List.drop_zero]
  refine ops H' ?_
  refine zF ?_
  refine zN ?_
  obtain rfl:=zso h0'
  exact zP H' rfl rfl
theorem W_impl_isPlace (n:Int) (size:Int) (r':Bool) (h0':impl_isPlace n size=some r'):Fn X 129 [.one (.sc (.int .i64 n)),.one (.sc (.int .i64 size))] [.one (.sc (.bool r'))] []:=by
 have H':=t3
 unfold impl_isPlace at h0'
 refine Fn.start (fn:=f129) (N:=9) (res:=[.tmp 4]) rfl rfl rfl rfl rfl (by simp) ?_
 refine zW H' ?_
 refine zB ?_
 refine zA ?_
 refine ops H' ?_
 refine zF ?_
 refine zB ?_
 refine zA ?_
 refine ops H' ?_
 obtain ⟨x8,hy',h0'⟩:=zbi h0'
 refine zY H' (fun _=>[]) (W_impl_inRange _ _ _ _ hy') ?_
 refine ops H' ?_
 refine zF ?_
 refine zN ?_
 obtain rfl:=zso h0'
 exact zP H' rfl rfl
theorem W_impl_set_has (s:Int) (v:Int) (r':Bool) (h0':impl_set_has s v=some r'):Fn X 124 [.one (.sc (.int .u64 s)),.one (.sc (.int .i64 v))] [.one (.sc (.bool r'))] []:=by
 have H':=And.intro t3 (And.intro t105 (t162))
 unfold impl_set_has at h0'
 refine Fn.start (fn:=f124) (N:=15) (res:=[.tmp 4]) rfl rfl rfl rfl rfl (by simp) ?_
 refine zW H' ?_
 refine zB ?_
 refine zA ?_
 refine ops H' ?_
 refine zF ?_
 refine zB ?_
 refine zA ?_
 refine ops H' ?_
 obtain ⟨x6,hy',h0'⟩:=zbi h0'
 refine zY H' (fun _=>[]) (W_impl_inRange _ _ _ _ hy') ?_
 refine ops H' ?_
 obtain ⟨b,gh0',h0'⟩:=zbi h0'
 refine qE 7 (fun e'=>e'=⟨15,2,2,[(14,.pl (.one (.v (.sc (.bool b)))))],[]⟩) ?_ ?_
 ·simp only [List.take_succ_cons,List.take_zero]
  refine qI (fun hc'=>?_) (fun hc'=>?_)
  ·replace gh0':=(ifT hc').symm.trans gh0'
   obtain ⟨u,hv',gh0'⟩:=zbi gh0'
   have H':=And.intro (chkF hv') H'
   refine ops H' ?_
   obtain rfl:=zso gh0'
   refine zG ?_
   exact ⟨rfl,shd [14] [] 2 rfl⟩
  ·replace gh0':=(ifF hc').symm.trans gh0'
   refine ops H' ?_
   obtain rfl:=zso gh0'
   refine zG ?_
   exact ⟨rfl,shd [14] [] 2 rfl⟩
 ·rintro e' rfl
  simp only [List.drop_succ_cons,List.drop_zero]
  refine ops H' ?_
  refine zF ?_
  refine zN ?_
  obtain rfl:=zso h0'
  exact zP H' rfl rfl
theorem W_impl_setOf (list_:List Int) (r':Int) (h0':impl_setOf list_=some r'):Fn X 125 [.one (.list false 1 (List.map (rK .i64) list_))] [.one (.sc (.int .u64 r'))] []:=by
 have H':=And.intro t3 (And.intro t43 (And.intro t105 (And.intro t162 (R_i64))))
 unfold impl_setOf at h0'
 refine Fn.start (fn:=f125) (N:=21) (res:=[.tmp 2]) rfl rfl rfl rfl rfl (by simp) ?_
 refine zW H' ?_
 refine zB ?_
 refine zA ?_
 refine ops H' ?_
 refine zF ?_
 refine zB ?_
 refine zA ?_
 refine ops H' ?_
 refine zF ?_
 refine zU (fun e'=>∃ s,impl_setOf_j1 s=some r'∧e'=⟨21,1,1,[(3,.pl (.one (.v (.sc (.int .u64 s)))))],[]⟩) ?_ ?_
 ·refine zB ?_
  refine zA ?_
  refine ops H' ?_
  refine zF ?_
  obtain ⟨p,hl',h0'⟩:=zbi h0'
  refine zI ?_
  refine zR (fun s' e'=>∃ s_1 x8,s'=(s_1,x8)∧e'=⟨21,1,1,[(3,.pl (.one (.v (.sc (.int .u64 s_1))))),(6,.pl (.one (.v (.list false 1 (List.map (rK .i64) list_))))),(7,.pl (.one (.v (.sc (.int .i64 (list_.length:Int)))))),(8,.pl (.one (.v (.sc (.int .i64 x8)))))],[]⟩) hl' (shd [3,6,7,8] [] 1 ⟨_,_,rfl,rfl⟩) ?_
  rintro s' y1' e' h1' ⟨s_1,x8,rfl,rfl⟩
  replace h1':impl_setOf_l1 list_ s_1 x8=some y1':=h1'
  unfold impl_setOf_l1 at h1'
  refine zB ?_
  refine zA ?_
  refine ops H' ?_
  refine zF ?_
  refine zB ?_
  refine zH (fun hc'=>?_) (fun hc'=>?_)
  ·replace h1':=(ifT hc').symm.trans h1'
   refine zM ?_
   refine zB ?_
   refine zI ?_
   refine zB ?_
   refine zA ?_
   obtain ⟨x,hv',h1'⟩:=zbi h1'
   have H':=And.intro (zS hv') H'
   refine ops H' ?_
   refine zF ?_
   refine zB ?_
   refine zA ?_
   refine ops H' ?_
   obtain ⟨x13,hy',h1'⟩:=zbi h1'
   refine zY H' (fun _=>[]) (W_impl_inRange _ _ _ _ hy') ?_
   refine zF ?_
   refine zH (fun hc'=>?_) (fun hc'=>?_)
   ·replace h1':=(ifT hc').symm.trans h1'
    refine zA ?_
    obtain ⟨u,hv',h1'⟩:=zbi h1'
    have H':=And.intro (chkF hv') H'
    refine ops H' ?_
    refine zF ?_
    refine zA ?_
    refine ops H' ?_
    refine zF ?_
    obtain rfl:=zso h1'
    exact shd [3,6,7,8] [] 1 ⟨_,rfl,_,_,rfl,rfl⟩
   ·replace h1':=(ifF hc').symm.trans h1'
    refine zM ?_
    refine zA ?_
    refine ops H' ?_
    refine zF ?_
    obtain rfl:=zso h1'
    exact shd [3,6,7,8] [] 1 ⟨_,rfl,_,_,rfl,rfl⟩
  ·replace h1':=(ifF hc').symm.trans h1'
   refine qJ ?_
   obtain rfl:=zso h1'
   refine ⟨_,rfl,fun hr'=>?_⟩
   subst hr'
   exact shd [3] [] 1 ⟨_,h0',rfl⟩
 ·rintro e' ⟨s,h0',rfl⟩
  unfold impl_setOf_j1 at h0'
  refine zB ?_
  refine zA ?_
  refine ops H' ?_
  refine zF ?_
  refine zN ?_
  obtain rfl:=zso h0'
  exact zP H' rfl rfl
theorem W_impl_Body_isLive (b:T_impl_Body) (s:Int) (r':Bool) (h0':impl_Body_isLive b s=some r'):Fn X 63 [.agg [.sc (.string b.Line),.sc (.int .i64 b.Ins),.sc (.int .i64 b.Ord),.list false 1 (List.map (rK .i64) b.Dels)],.one (.sc (.int .u64 s))] [.one (.sc (.bool r'))] []:=by
 have H':=And.intro t3 (And.intro t43 (And.intro t105 (And.intro t110 (R_i64))))
 unfold impl_Body_isLive at h0'
 refine Fn.start (fn:=f63) (N:=17) (res:=[.tmp 4]) rfl rfl rfl rfl rfl (by simp) ?_
 refine zW H' ?_
 refine zB ?_
 refine zA ?_
 refine ops H' ?_
 refine zF ?_
 refine zB ?_
 refine zA ?_
 refine ops H' ?_
 obtain ⟨x8,hy',h0'⟩:=zbi h0'
 refine zY H' (fun _=>[]) (W_impl_set_has _ _ _ hy') ?_
 refine ops H' ?_
 obtain ⟨b_1,gh0',h0'⟩:=zbi h0'
 refine qE 7 (fun e'=>e'=⟨17,5,5,[(16,.pl (.one (.v (.sc (.bool b_1)))))],[]⟩) ?_ ?_
 ·simp only [List.take_succ_cons,List.take_zero]
  refine qI (fun hc'=>?_) (fun hc'=>?_)
  ·replace gh0':=(ifT hc').symm.trans gh0'
   refine ops H' ?_
   obtain ⟨x12,hy',gh0'⟩:=zbi gh0'
   refine zY H' (fun _=>[]) (W_impl_setOf _ _ hy') ?_
   refine ops H' ?_
   obtain rfl:=zso gh0'
   refine zG ?_
   exact ⟨rfl,shd [16] [] 5 rfl⟩
  ·replace gh0':=(ifF hc').symm.trans gh0'
   refine ops H' ?_
   obtain rfl:=zso gh0'
   refine zG ?_
   exact ⟨rfl,shd [16] [] 5 rfl⟩
 ·rintro e' rfl
  simp only [List.drop_succ_cons,List.drop_zero]
  refine ops H' ?_
  refine zF ?_
  refine zN ?_
  obtain rfl:=zso h0'
  exact zP H' rfl rfl
theorem W_impl_Weave_liveIn (w:T_impl_Weave) (s:Int) (r':(List Int)) (h0':impl_Weave_liveIn w s=some r'):Fn X 78 [.one (.box false [.list false 1 (List.map (rL false 1 (rK .i64)) w.Parents),.list false 4 (List.map (zC false) w.Bodies)]),.one (.sc (.int .u64 s))] [.one (.list true 1 (List.map (rK .i64) r'))] []:=by
 have H':=And.intro t3 (And.intro t31 (And.intro t33 (And.intro t43 (And.intro t110 (And.intro R_Li64 (And.intro qK (R_i64)))))))
 unfold impl_Weave_liveIn at h0'
 refine Fn.start (fn:=f78) (N:=27) (res:=[.tmp 4]) rfl rfl rfl rfl rfl (by simp) ?_
 refine zW H' ?_
 refine zB ?_
 refine zA ?_
 refine ops H' ?_
 refine zF ?_
 refine zB ?_
 refine zA ?_
 refine ops H' ?_
 refine zF ?_
 refine zU (fun e'=>∃ out_,impl_Weave_liveIn_j1 out_=some r'∧e'=⟨27,2,3,[(5,.pl (.one (.ref 2 [])))],[(2,.list true 1 (List.map (rK .i64) out_))]⟩) ?_ ?_
 ·refine zB ?_
  refine zA ?_
  refine ops H' ?_
  refine zF ?_
  obtain ⟨p,hl',h0'⟩:=zbi h0'
  refine zI ?_
  refine zR (fun s' e'=>∃ x13 out__1,s'=(x13,out__1)∧e'=⟨27,2,3,[(1,.pl (.one (.v (.sc (.int .u64 s))))),(5,.pl (.one (.ref 2 []))),(11,.pl (.one (.v (.list false 4 (List.map (zC false) w.Bodies))))),(12,.pl (.one (.v (.sc (.int .i64 (w.Bodies.length:Int)))))),(13,.pl (.one (.v (.sc (.int .i64 x13)))))],[(2,.list true 1 (List.map (rK .i64) out__1))]⟩) hl' (shd [1,5,11,12,13] [(3,2)] 3 ⟨_,_,rfl,rfl⟩) ?_
  rintro s' y1' e' h1' ⟨x13,out__1,rfl,rfl⟩
  replace h1':qZ w s x13 out__1=some y1':=h1'
  unfold qZ at h1'
  refine zB ?_
  refine zA ?_
  refine ops H' ?_
  refine zF ?_
  refine zB ?_
  refine zH (fun hc'=>?_) (fun hc'=>?_)
  ·replace h1':=(ifT hc').symm.trans h1'
   refine zM ?_
   refine zB ?_
   refine zI ?_
   refine zB ?_
   refine zA ?_
   obtain ⟨x,hv',h1'⟩:=zbi h1'
   have H':=And.intro (zS hv') H'
   refine ops H' ?_
   refine zF ?_
   refine zB ?_
   refine zA ?_
   refine ops H' ?_
   obtain ⟨x20,hy',h1'⟩:=zbi h1'
   refine zY H' (fun _=>[]) (W_impl_Body_isLive _ _ _ hy') ?_
   refine zF ?_
   refine zH (fun hc'=>?_) (fun hc'=>?_)
   ·replace h1':=(ifT hc').symm.trans h1'
    refine zA ?_
    obtain ⟨l,hv',h1'⟩:=zbi h1'
    have H':=And.intro (app1_f hv') H'
    refine ops H' ?_
    refine zF ?_
    refine zA ?_
    refine ops H' ?_
    refine zF ?_
    obtain rfl:=zso h1'
    exact shd [1,5,11,12,13] [(2,2)] 3 ⟨_,rfl,_,_,rfl,rfl⟩
   ·replace h1':=(ifF hc').symm.trans h1'
    refine zM ?_
    refine zA ?_
    refine ops H' ?_
    refine zF ?_
    obtain rfl:=zso h1'
    exact shd [1,5,11,12,13] [(2,2)] 3 ⟨_,rfl,_,_,rfl,rfl⟩
  ·replace h1':=(ifF hc').symm.trans h1'
   refine qJ ?_
   obtain rfl:=zso h1'
   refine ⟨_,rfl,fun hr'=>?_⟩
   subst hr'
   exact shd [5] [(2,2)] 3 ⟨_,h0',rfl⟩
 ·rintro e' ⟨out_,h0',rfl⟩
  unfold impl_Weave_liveIn_j1 at h0'
  refine zB ?_
  refine zA ?_
  refine ops H' ?_
  refine zF ?_
  refine zN ?_
  obtain rfl:=zso h0'
  exact zP H' rfl rfl
end Go.TV.KFnExactStatsOf
