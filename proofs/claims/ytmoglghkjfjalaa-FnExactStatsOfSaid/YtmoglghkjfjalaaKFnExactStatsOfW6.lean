/- Walks. -/
import Derived.Test.YtmoglghkjfjalaaKFnExactStatsOfE
import Derived.Test.YtmoglghkjfjalaaKFnExactStatsOfW0
import Derived.Test.YtmoglghkjfjalaaKFnExactStatsOfW3
import Derived.Test.YtmoglghkjfjalaaKFnExactStatsOfW5
set_option linter.unusedVariables false
set_option linter.unusedSimpArgs false
set_option maxHeartbeats 8000000
set_option maxRecDepth 100000
namespace Go.TV.KFnExactStatsOf
attribute [local irreducible] anyV wpV opsV Does thenV blockV RetL quV seqV
open Go.Proofs.Try Go.TV.F
theorem W_impl_StatsOf (s:T_impl_Store) (r':T_impl_Stats×Bool) (h0':impl_StatsOf s=some r'):Fn X 30 [.agg [.list false 3 (List.map (zD false) s.Commits),.list false 2 (List.map (zE false) s.Files)]] [.agg [.sc (.int .i64 r'.1.Commits),.sc (.int .i64 r'.1.Files),.sc (.int .i64 r'.1.Versions),.sc (.int .i64 r'.1.Bodies),.sc (.int .i64 r'.1.Whole),.sc (.int .i64 r'.1.Bytes)],.one (.sc (.bool r'.2))] []:=by
 have H':=And.intro t3 (And.intro t9 (And.intro t30 (And.intro t31 (And.intro t33 (And.intro t36 (And.intro t57 (And.intro t60 (And.intro t61 (And.intro t63 (And.intro t110 (And.intro R_Li64 (And.intro qK (And.intro qP (And.intro qM (And.intro jA (And.intro R_i64 (R_s)))))))))))))))))
 unfold impl_StatsOf at h0'
 refine Fn.start (fn:=f30) (N:=73) (res:=[.cell 2 57,.tmp 3]) rfl rfl rfl rfl rfl (by simp) ?_
 refine zW H' ?_
 refine zB ?_
 refine zA ?_
 refine ops H' ?_
 refine zF ?_
 refine zB ?_
 refine zB ?_
 refine zA ?_
 refine ops H' ?_
 obtain ⟨x11,hy',h0'⟩:=zbi h0'
 refine zY H' (fun _=>[]) (W_impl_StoreOk _ _ hy') ?_
 refine ops H' ?_
 refine zF ?_
 refine zH (fun hc'=>?_) (fun hc'=>?_)
 ·replace h0':=(ifT hc').symm.trans h0'
  refine zB ?_
  refine zA ?_
  refine ops H' ?_
  refine zF ?_
  refine zN ?_
  obtain rfl:=zso h0'
  exact outC H' rfl rfl
 ·replace h0':=(ifF hc').symm.trans h0'
  refine zM ?_
  refine zB ?_
  refine zA ?_
  refine ops H' ?_
  refine zF ?_
  refine zU (fun e'=>∃ out_ out__1 out__2 out__3,impl_StatsOf_j1 s out_ out__1 out__2 out__3=some r'∧e'=⟨73,2,4,[(2,.pl (.one (.ref 2 []))),(4,.pl (.one (.ref 3 [])))],[(2,.box true [.sc (.int .i64 0),.sc (.int .i64 0),.sc (.int .i64 0),.sc (.int .i64 0),.sc (.int .i64 0),.sc (.int .i64 0)]),(3,.box true [.sc (.int .i64 (s.Commits.length:Int)),.sc (.int .i64 (s.Files.length:Int)),.sc (.int .i64 out_),.sc (.int .i64 out__1),.sc (.int .i64 out__2),.sc (.int .i64 out__3)])]⟩) ?_ ?_
  ·refine zB ?_
   refine zA ?_
   refine ops H' ?_
   refine zF ?_
   obtain ⟨p,hl',h0'⟩:=zbi h0'
   refine zI ?_
   refine zR (fun s' e'=>∃ x24 out__4 out__5 out__6 out__7,s'=(x24,out__4,out__5,out__6,out__7)∧e'=⟨73,2,4,[(2,.pl (.one (.ref 2 []))),(4,.pl (.one (.ref 3 []))),(22,.pl (.one (.v (.list false 2 (List.map (zE false) s.Files))))),(23,.pl (.one (.v (.sc (.int .i64 (s.Files.length:Int)))))),(24,.pl (.one (.v (.sc (.int .i64 x24)))))],[(2,.box true [.sc (.int .i64 0),.sc (.int .i64 0),.sc (.int .i64 0),.sc (.int .i64 0),.sc (.int .i64 0),.sc (.int .i64 0)]),(3,.box true [.sc (.int .i64 (s.Commits.length:Int)),.sc (.int .i64 (s.Files.length:Int)),.sc (.int .i64 out__4),.sc (.int .i64 out__5),.sc (.int .i64 out__6),.sc (.int .i64 out__7)])]⟩) hl' (shd [2,4,22,23,24] [(3,2),(5,3)] 4 ⟨_,_,_,_,_,rfl,rfl⟩) ?_
   rintro s' y1' e' h1' ⟨x24,out__4,out__5,out__6,out__7,rfl,rfl⟩
   replace h1':impl_StatsOf_l1 s x24 out__4 out__5 out__6 out__7=some y1':=h1'
   unfold impl_StatsOf_l1 at h1'
   refine zB ?_
   refine zA ?_
   refine ops H' ?_
   refine zF ?_
   refine zB ?_
   refine zH (fun hc'=>?_) (fun hc'=>?_)
   ·replace h1':=(ifT hc').symm.trans h1'
    refine zM ?_
    refine zU (fun e'=>∃ out__8 out__9 out__10 out__11,impl_StatsOf_j2 x24 out__8 out__9 out__10 out__11=some y1'∧e'=⟨73,2,4,[(2,.pl (.one (.ref 2 []))),(4,.pl (.one (.ref 3 []))),(22,.pl (.one (.v (.list false 2 (List.map (zE false) s.Files))))),(23,.pl (.one (.v (.sc (.int .i64 (s.Files.length:Int)))))),(24,.pl (.one (.v (.sc (.int .i64 x24)))))],[(2,.box true [.sc (.int .i64 0),.sc (.int .i64 0),.sc (.int .i64 0),.sc (.int .i64 0),.sc (.int .i64 0),.sc (.int .i64 0)]),(3,.box true [.sc (.int .i64 (s.Commits.length:Int)),.sc (.int .i64 (s.Files.length:Int)),.sc (.int .i64 out__8),.sc (.int .i64 out__9),.sc (.int .i64 out__10),.sc (.int .i64 out__11)])]⟩) ?_ ?_
    ·refine zI ?_
     refine zB ?_
     refine zA ?_
     obtain ⟨x,hv',h1'⟩:=zbi h1'
     have H':=And.intro (zS hv') H'
     refine ops H' ?_
     refine zF ?_
     refine zB ?_
     refine zA ?_
     refine ops H' ?_
     refine zF ?_
     refine zB ?_
     refine zA ?_
     refine ops H' ?_
     refine zF ?_
     refine zU (fun e'=>∃ out__12,impl_StatsOf_j3 x24 out__4 out__5 out__7 x out__12=some y1'∧e'=⟨73,2,5,[(2,.pl (.one (.ref 2 []))),(4,.pl (.one (.ref 3 []))),(6,.pl (.one (.ref 4 []))),(22,.pl (.one (.v (.list false 2 (List.map (zE false) s.Files))))),(23,.pl (.one (.v (.sc (.int .i64 (s.Files.length:Int)))))),(24,.pl (.one (.v (.sc (.int .i64 x24)))))],[(2,.box true [.sc (.int .i64 0),.sc (.int .i64 0),.sc (.int .i64 0),.sc (.int .i64 0),.sc (.int .i64 0),.sc (.int .i64 0)]),(3,.box true [.sc (.int .i64 (s.Commits.length:Int)),.sc (.int .i64 (s.Files.length:Int)),.sc (.int .i64 (wk .i64 (out__4+(x.Parents.length:Int)))),.sc (.int .i64 (wk .i64 (out__5+(x.Bodies.length:Int)))),.sc (.int .i64 out__12),.sc (.int .i64 out__7)]),(4,.box true [.list false 1 (List.map (rL false 1 (rK .i64)) x.Parents),.list false 4 (List.map (zC false) x.Bodies)])]⟩) ?_ ?_
     ·refine zB ?_
      refine zA ?_
      refine ops H' ?_
      refine zF ?_
      obtain ⟨p_2,hl',h1'⟩:=zbi h1'
      refine zI ?_
      refine zR (fun s' e'=>∃ x45 out__14,s'=(x45,out__14)∧e'=⟨73,2,5,[(2,.pl (.one (.ref 2 []))),(4,.pl (.one (.ref 3 []))),(6,.pl (.one (.ref 4 []))),(22,.pl (.one (.v (.list false 2 (List.map (zE false) s.Files))))),(23,.pl (.one (.v (.sc (.int .i64 (s.Files.length:Int)))))),(24,.pl (.one (.v (.sc (.int .i64 x24))))),(44,.pl (.one (.v (.sc (.int .i64 (x.Parents.length:Int)))))),(45,.pl (.one (.v (.sc (.int .i64 x45)))))],[(2,.box true [.sc (.int .i64 0),.sc (.int .i64 0),.sc (.int .i64 0),.sc (.int .i64 0),.sc (.int .i64 0),.sc (.int .i64 0)]),(3,.box true [.sc (.int .i64 (s.Commits.length:Int)),.sc (.int .i64 (s.Files.length:Int)),.sc (.int .i64 (wk .i64 (out__4+(x.Parents.length:Int)))),.sc (.int .i64 (wk .i64 (out__5+(x.Bodies.length:Int)))),.sc (.int .i64 out__14),.sc (.int .i64 out__7)]),(4,.box true [.list false 1 (List.map (rL false 1 (rK .i64)) x.Parents),.list false 4 (List.map (zC false) x.Bodies)])]⟩) hl' (shd [2,4,6,22,23,24,44,45] [(2,2),(3,3),(4,4)] 5 ⟨_,_,rfl,rfl⟩) ?_
      rintro s' y2' e' h2' ⟨x45,out__14,rfl,rfl⟩
      replace h2':impl_StatsOf_l3 x x45 out__14=some y2':=h2'
      unfold impl_StatsOf_l3 at h2'
      refine zB ?_
      refine zA ?_
      refine ops H' ?_
      refine zF ?_
      refine zB ?_
      refine zH (fun hc'=>?_) (fun hc'=>?_)
      ·replace h2':=(ifT hc').symm.trans h2'
       refine zM ?_
       refine zB ?_
       refine zI ?_
       refine zB ?_
       refine zA ?_
       refine ops H' ?_
       refine zF ?_
       obtain ⟨x51,hy_x51,h2'⟩:=zbi h2'
       refine wpV_J (fun e'=>e'=⟨73,2,5,[(2,.pl (.one (.ref 2 []))),(4,.pl (.one (.ref 3 []))),(6,.pl (.one (.ref 4 []))),(22,.pl (.one (.v (.list false 2 (List.map (zE false) s.Files))))),(23,.pl (.one (.v (.sc (.int .i64 (s.Files.length:Int)))))),(24,.pl (.one (.v (.sc (.int .i64 x24))))),(44,.pl (.one (.v (.sc (.int .i64 (x.Parents.length:Int)))))),(45,.pl (.one (.v (.sc (.int .i64 x45)))))],[(2,.box true [.sc (.int .i64 0),.sc (.int .i64 0),.sc (.int .i64 0),.sc (.int .i64 0),.sc (.int .i64 0),.sc (.int .i64 0)]),(3,.box true [.sc (.int .i64 (s.Commits.length:Int)),.sc (.int .i64 (s.Files.length:Int)),.sc (.int .i64 (wk .i64 (out__4+(x.Parents.length:Int)))),.sc (.int .i64 (wk .i64 (out__5+(x.Bodies.length:Int)))),.sc (.int .i64 (wk .i64 (out__14+(x51.length:Int)))),.sc (.int .i64 out__7)]),(4,.box true [.list false 1 (List.map (rL false 1 (rK .i64)) x.Parents),.list false 4 (List.map (zC false) x.Bodies)])]⟩) ?_ ?_
       ·refine regAnyF [(1,49,.pl (.one (.v (.sc (.int .i64 out__14))))),(4,52,.pl (.one (.v (.sc (.int .i64 (x51.length:Int)))))),(5,53,.pl (.one (.v (.sc (.int .i64 (wk .i64 (out__14+(x51.length:Int))))))))] ?_
        refine (?_:anyF X ?ops12_0_0 _ _ ?P12_0_0 _)
        have d12_0_0_0':anyF X ?ops12_0_0 [0,1,2,3,4,5,6,7] [] ?P12_0_0 ⟨73,2,5,[(2,.pl (.one (.ref 2 []))),(4,.pl (.one (.ref 3 []))),(6,.pl (.one (.ref 4 []))),(22,.pl (.one (.v (.list false 2 (List.map (zE false) s.Files))))),(23,.pl (.one (.v (.sc (.int .i64 (s.Files.length:Int)))))),(24,.pl (.one (.v (.sc (.int .i64 x24))))),(44,.pl (.one (.v (.sc (.int .i64 (x.Parents.length:Int)))))),(45,.pl (.one (.v (.sc (.int .i64 x45)))))],[(2,.box true [.sc (.int .i64 0),.sc (.int .i64 0),.sc (.int .i64 0),.sc (.int .i64 0),.sc (.int .i64 0),.sc (.int .i64 0)]),(3,.box true [.sc (.int .i64 (s.Commits.length:Int)),.sc (.int .i64 (s.Files.length:Int)),.sc (.int .i64 (wk .i64 (out__4+(x.Parents.length:Int)))),.sc (.int .i64 (wk .i64 (out__5+(x.Bodies.length:Int)))),.sc (.int .i64 (wk .i64 (out__14+(x51.length:Int)))),.sc (.int .i64 out__7)]),(4,.box true [.list false 1 (List.map (rL false 1 (rK .i64)) x.Parents),.list false 4 (List.map (zC false) x.Bodies)])]⟩:=by
         refine fend (e2:=⟨73,2,5,[(2,.pl (.one (.ref 2 []))),(4,.pl (.one (.ref 3 []))),(6,.pl (.one (.ref 4 []))),(22,.pl (.one (.v (.list false 2 (List.map (zE false) s.Files))))),(23,.pl (.one (.v (.sc (.int .i64 (s.Files.length:Int)))))),(24,.pl (.one (.v (.sc (.int .i64 x24))))),(44,.pl (.one (.v (.sc (.int .i64 (x.Parents.length:Int)))))),(45,.pl (.one (.v (.sc (.int .i64 x45)))))],[(2,.box true [.sc (.int .i64 0),.sc (.int .i64 0),.sc (.int .i64 0),.sc (.int .i64 0),.sc (.int .i64 0),.sc (.int .i64 0)]),(3,.box true [.sc (.int .i64 (s.Commits.length:Int)),.sc (.int .i64 (s.Files.length:Int)),.sc (.int .i64 (wk .i64 (out__4+(x.Parents.length:Int)))),.sc (.int .i64 (wk .i64 (out__5+(x.Bodies.length:Int)))),.sc (.int .i64 (wk .i64 (out__14+(x51.length:Int)))),.sc (.int .i64 out__7)]),(4,.box true [.list false 1 (List.map (rL false 1 (rK .i64)) x.Parents),.list false 4 (List.map (zC false) x.Bodies)])]⟩) [] [] [] [] trivial ⟨rfl,shd [2,4,6,22,23,24,44,45] [(2,2),(3,3),(4,4)] 5 rfl⟩
        have d12_0_0_1':anyF X ?ops12_0_0 [0,1,2,3,4,5,6] [] ?P12_0_0 ⟨73,2,5,[(2,.pl (.one (.ref 2 []))),(4,.pl (.one (.ref 3 []))),(6,.pl (.one (.ref 4 []))),(22,.pl (.one (.v (.list false 2 (List.map (zE false) s.Files))))),(23,.pl (.one (.v (.sc (.int .i64 (s.Files.length:Int)))))),(24,.pl (.one (.v (.sc (.int .i64 x24))))),(44,.pl (.one (.v (.sc (.int .i64 (x.Parents.length:Int)))))),(45,.pl (.one (.v (.sc (.int .i64 x45))))),(53,.pl (.one (.v (.sc (.int .i64 (wk .i64 (out__14+(x51.length:Int)))))))),(54,.pl (.one (.addr 3 [] 0 0 4)))],[(2,.box true [.sc (.int .i64 0),.sc (.int .i64 0),.sc (.int .i64 0),.sc (.int .i64 0),.sc (.int .i64 0),.sc (.int .i64 0)]),(3,.box true [.sc (.int .i64 (s.Commits.length:Int)),.sc (.int .i64 (s.Files.length:Int)),.sc (.int .i64 (wk .i64 (out__4+(x.Parents.length:Int)))),.sc (.int .i64 (wk .i64 (out__5+(x.Bodies.length:Int)))),.sc (.int .i64 out__14),.sc (.int .i64 out__7)]),(4,.box true [.list false 1 (List.map (rL false 1 (rK .i64)) x.Parents),.list false 4 (List.map (zC false) x.Bodies)])]⟩:=by
         refine fnode [] [.m 7 [] [0,1,2,3,4,5,6,7] []] [] [(7,false,[],[0,1,2,3,4,5,6,7])] ⟨?_,trivial⟩
         ·refine obMx ⟨73,2,5,[(2,.pl (.one (.ref 2 []))),(4,.pl (.one (.ref 3 []))),(6,.pl (.one (.ref 4 []))),(22,.pl (.one (.v (.list false 2 (List.map (zE false) s.Files))))),(23,.pl (.one (.v (.sc (.int .i64 (s.Files.length:Int)))))),(24,.pl (.one (.v (.sc (.int .i64 x24))))),(44,.pl (.one (.v (.sc (.int .i64 (x.Parents.length:Int)))))),(45,.pl (.one (.v (.sc (.int .i64 x45))))),(53,.pl (.one (.v (.sc (.int .i64 (wk .i64 (out__14+(x51.length:Int)))))))),(54,.pl (.one (.addr 3 [] 0 0 4)))],[(2,.box true [.sc (.int .i64 0),.sc (.int .i64 0),.sc (.int .i64 0),.sc (.int .i64 0),.sc (.int .i64 0),.sc (.int .i64 0)]),(3,.box true [.sc (.int .i64 (s.Commits.length:Int)),.sc (.int .i64 (s.Files.length:Int)),.sc (.int .i64 (wk .i64 (out__4+(x.Parents.length:Int)))),.sc (.int .i64 (wk .i64 (out__5+(x.Bodies.length:Int)))),.sc (.int .i64 out__14),.sc (.int .i64 out__7)]),(4,.box true [.list false 1 (List.map (rL false 1 (rK .i64)) x.Parents),.list false 4 (List.map (zC false) x.Bodies)])]⟩ ?_
          refine ops H' ?_
          refine zG ⟨rfl,.inl ⟨rfl,?_⟩⟩
          exact qF [2,4,6,22,23,24,44,45] [(2,2),(3,3),(4,4)] 5 d12_0_0_0'
        have d12_0_0_2':anyF X ?ops12_0_0 [0,2,3] [(1,49,.pl (.one (.v (.sc (.int .i64 out__14))))),(4,52,.pl (.one (.v (.sc (.int .i64 (x51.length:Int)))))),(5,53,.pl (.one (.v (.sc (.int .i64 (wk .i64 (out__14+(x51.length:Int))))))))] ?P12_0_0 ⟨73,2,6,[(2,.pl (.one (.ref 2 []))),(4,.pl (.one (.ref 3 []))),(6,.pl (.one (.ref 4 []))),(22,.pl (.one (.v (.list false 2 (List.map (zE false) s.Files))))),(23,.pl (.one (.v (.sc (.int .i64 (s.Files.length:Int)))))),(24,.pl (.one (.v (.sc (.int .i64 x24))))),(44,.pl (.one (.v (.sc (.int .i64 (x.Parents.length:Int)))))),(45,.pl (.one (.v (.sc (.int .i64 x45))))),(48,.pl (.one (.addr 3 [] 0 0 4))),(51,.pl (.one (.ref 5 [])))],[(2,.box true [.sc (.int .i64 0),.sc (.int .i64 0),.sc (.int .i64 0),.sc (.int .i64 0),.sc (.int .i64 0),.sc (.int .i64 0)]),(3,.box true [.sc (.int .i64 (s.Commits.length:Int)),.sc (.int .i64 (s.Files.length:Int)),.sc (.int .i64 (wk .i64 (out__4+(x.Parents.length:Int)))),.sc (.int .i64 (wk .i64 (out__5+(x.Bodies.length:Int)))),.sc (.int .i64 out__14),.sc (.int .i64 out__7)]),(4,.box true [.list false 1 (List.map (rL false 1 (rK .i64)) x.Parents),.list false 4 (List.map (zC false) x.Bodies)]),(5,.list true 1 (List.map rS x51))]⟩:=by
         refine fnode [1,4,5] [.q 1 49 (.pl (.one (.v (.sc (.int .i64 out__14))))) [],.q 4 52 (.pl (.one (.v (.sc (.int .i64 (x51.length:Int)))))) [],.q 5 53 (.pl (.one (.v (.sc (.int .i64 (wk .i64 (out__14+(x51.length:Int)))))))) [1,4],.m 6 [1,4,5] [0,1,2,3,4,5,6] []] [(1,49),(4,52),(5,53)] [(1,true,[],[]),(4,true,[],[]),(5,true,[1,4],[]),(6,false,[1,4,5],[0,1,2,3,4,5,6])] ⟨?_,?_,?_,?_,trivial⟩
         ·refine zV 0 ⟨73,2,6,[(2,.pl (.one (.ref 2 []))),(4,.pl (.one (.ref 3 []))),(6,.pl (.one (.ref 4 []))),(22,.pl (.one (.v (.list false 2 (List.map (zE false) s.Files))))),(23,.pl (.one (.v (.sc (.int .i64 (s.Files.length:Int)))))),(24,.pl (.one (.v (.sc (.int .i64 x24))))),(44,.pl (.one (.v (.sc (.int .i64 (x.Parents.length:Int)))))),(45,.pl (.one (.v (.sc (.int .i64 x45))))),(48,.pl (.one (.addr 3 [] 0 0 4))),(51,.pl (.one (.ref 5 [])))],[(2,.box true [.sc (.int .i64 0),.sc (.int .i64 0),.sc (.int .i64 0),.sc (.int .i64 0),.sc (.int .i64 0),.sc (.int .i64 0)]),(3,.box true [.sc (.int .i64 (s.Commits.length:Int)),.sc (.int .i64 (s.Files.length:Int)),.sc (.int .i64 (wk .i64 (out__4+(x.Parents.length:Int)))),.sc (.int .i64 (wk .i64 (out__5+(x.Bodies.length:Int)))),.sc (.int .i64 out__14),.sc (.int .i64 out__7)]),(4,.box true [.list false 1 (List.map (rL false 1 (rK .i64)) x.Parents),.list false 4 (List.map (zC false) x.Bodies)]),(5,.list true 1 (List.map rS x51))]⟩ ?_
          refine ops H' ?_
          refine zG ⟨rfl,shd [49,2,4,6,22,23,24,44,45,48,51] [(2,2),(3,3),(4,4),(5,5)] 6 rfl⟩
         ·refine zV 1 ⟨73,2,6,[(2,.pl (.one (.ref 2 []))),(4,.pl (.one (.ref 3 []))),(6,.pl (.one (.ref 4 []))),(22,.pl (.one (.v (.list false 2 (List.map (zE false) s.Files))))),(23,.pl (.one (.v (.sc (.int .i64 (s.Files.length:Int)))))),(24,.pl (.one (.v (.sc (.int .i64 x24))))),(44,.pl (.one (.v (.sc (.int .i64 (x.Parents.length:Int)))))),(45,.pl (.one (.v (.sc (.int .i64 x45))))),(48,.pl (.one (.addr 3 [] 0 0 4))),(51,.pl (.one (.ref 5 [])))],[(2,.box true [.sc (.int .i64 0),.sc (.int .i64 0),.sc (.int .i64 0),.sc (.int .i64 0),.sc (.int .i64 0),.sc (.int .i64 0)]),(3,.box true [.sc (.int .i64 (s.Commits.length:Int)),.sc (.int .i64 (s.Files.length:Int)),.sc (.int .i64 (wk .i64 (out__4+(x.Parents.length:Int)))),.sc (.int .i64 (wk .i64 (out__5+(x.Bodies.length:Int)))),.sc (.int .i64 out__14),.sc (.int .i64 out__7)]),(4,.box true [.list false 1 (List.map (rL false 1 (rK .i64)) x.Parents),.list false 4 (List.map (zC false) x.Bodies)]),(5,.list true 1 (List.map rS x51))]⟩ ?_
          refine ops H' ?_
          refine zG ⟨rfl,shd [52,2,4,6,22,23,24,44,45,48,51] [(2,2),(3,3),(4,4),(5,5)] 6 rfl⟩
         ·refine zV 2 ⟨73,2,6,[(49,.pl (.one (.v (.sc (.int .i64 out__14))))),(52,.pl (.one (.v (.sc (.int .i64 (x51.length:Int)))))),(2,.pl (.one (.ref 2 []))),(4,.pl (.one (.ref 3 []))),(6,.pl (.one (.ref 4 []))),(22,.pl (.one (.v (.list false 2 (List.map (zE false) s.Files))))),(23,.pl (.one (.v (.sc (.int .i64 (s.Files.length:Int)))))),(24,.pl (.one (.v (.sc (.int .i64 x24))))),(44,.pl (.one (.v (.sc (.int .i64 (x.Parents.length:Int)))))),(45,.pl (.one (.v (.sc (.int .i64 x45))))),(48,.pl (.one (.addr 3 [] 0 0 4))),(51,.pl (.one (.ref 5 [])))],[(2,.box true [.sc (.int .i64 0),.sc (.int .i64 0),.sc (.int .i64 0),.sc (.int .i64 0),.sc (.int .i64 0),.sc (.int .i64 0)]),(3,.box true [.sc (.int .i64 (s.Commits.length:Int)),.sc (.int .i64 (s.Files.length:Int)),.sc (.int .i64 (wk .i64 (out__4+(x.Parents.length:Int)))),.sc (.int .i64 (wk .i64 (out__5+(x.Bodies.length:Int)))),.sc (.int .i64 out__14),.sc (.int .i64 out__7)]),(4,.box true [.list false 1 (List.map (rL false 1 (rK .i64)) x.Parents),.list false 4 (List.map (zC false) x.Bodies)]),(5,.list true 1 (List.map rS x51))]⟩ ?_
          refine ops H' ?_
          refine zG ⟨rfl,shd [53,2,4,6,22,23,24,44,45,48,51] [(2,2),(3,3),(4,4),(5,5)] 6 rfl⟩
         ·refine obMx ⟨73,2,6,[(49,.pl (.one (.v (.sc (.int .i64 out__14))))),(52,.pl (.one (.v (.sc (.int .i64 (x51.length:Int)))))),(53,.pl (.one (.v (.sc (.int .i64 (wk .i64 (out__14+(x51.length:Int)))))))),(2,.pl (.one (.ref 2 []))),(4,.pl (.one (.ref 3 []))),(6,.pl (.one (.ref 4 []))),(22,.pl (.one (.v (.list false 2 (List.map (zE false) s.Files))))),(23,.pl (.one (.v (.sc (.int .i64 (s.Files.length:Int)))))),(24,.pl (.one (.v (.sc (.int .i64 x24))))),(44,.pl (.one (.v (.sc (.int .i64 (x.Parents.length:Int)))))),(45,.pl (.one (.v (.sc (.int .i64 x45))))),(48,.pl (.one (.addr 3 [] 0 0 4))),(51,.pl (.one (.ref 5 [])))],[(2,.box true [.sc (.int .i64 0),.sc (.int .i64 0),.sc (.int .i64 0),.sc (.int .i64 0),.sc (.int .i64 0),.sc (.int .i64 0)]),(3,.box true [.sc (.int .i64 (s.Commits.length:Int)),.sc (.int .i64 (s.Files.length:Int)),.sc (.int .i64 (wk .i64 (out__4+(x.Parents.length:Int)))),.sc (.int .i64 (wk .i64 (out__5+(x.Bodies.length:Int)))),.sc (.int .i64 out__14),.sc (.int .i64 out__7)]),(4,.box true [.list false 1 (List.map (rL false 1 (rK .i64)) x.Parents),.list false 4 (List.map (zC false) x.Bodies)]),(5,.list true 1 (List.map rS x51))]⟩ ?_
          refine ops H' ?_
          refine zG ⟨rfl,.inl ⟨rfl,?_⟩⟩
          exact qF [2,4,6,22,23,24,44,45,53,54] [(2,2),(3,3),(4,4)] 5 d12_0_0_1'
        have d12_0_0_3':anyF X ?ops12_0_0 [0,2] [(1,49,.pl (.one (.v (.sc (.int .i64 out__14))))),(4,52,.pl (.one (.v (.sc (.int .i64 (x51.length:Int)))))),(5,53,.pl (.one (.v (.sc (.int .i64 (wk .i64 (out__14+(x51.length:Int))))))))] ?P12_0_0 ⟨73,2,5,[(2,.pl (.one (.ref 2 []))),(4,.pl (.one (.ref 3 []))),(6,.pl (.one (.ref 4 []))),(22,.pl (.one (.v (.list false 2 (List.map (zE false) s.Files))))),(23,.pl (.one (.v (.sc (.int .i64 (s.Files.length:Int)))))),(24,.pl (.one (.v (.sc (.int .i64 x24))))),(44,.pl (.one (.v (.sc (.int .i64 (x.Parents.length:Int)))))),(45,.pl (.one (.v (.sc (.int .i64 x45))))),(48,.pl (.one (.addr 3 [] 0 0 4))),(50,.pl (.one (.v (.sc (.int .i64 x45)))))],[(2,.box true [.sc (.int .i64 0),.sc (.int .i64 0),.sc (.int .i64 0),.sc (.int .i64 0),.sc (.int .i64 0),.sc (.int .i64 0)]),(3,.box true [.sc (.int .i64 (s.Commits.length:Int)),.sc (.int .i64 (s.Files.length:Int)),.sc (.int .i64 (wk .i64 (out__4+(x.Parents.length:Int)))),.sc (.int .i64 (wk .i64 (out__5+(x.Bodies.length:Int)))),.sc (.int .i64 out__14),.sc (.int .i64 out__7)]),(4,.box true [.list false 1 (List.map (rL false 1 (rK .i64)) x.Parents),.list false 4 (List.map (zC false) x.Bodies)])]⟩:=by
         refine fnode [1] [.q 1 49 (.pl (.one (.v (.sc (.int .i64 out__14))))) [],.m 3 [] [0,2,3] [(1,49,.pl (.one (.v (.sc (.int .i64 out__14))))),(4,52,.pl (.one (.v (.sc (.int .i64 (x51.length:Int)))))),(5,53,.pl (.one (.v (.sc (.int .i64 (wk .i64 (out__14+(x51.length:Int))))))))]] [(1,49),(4,52),(5,53)] [(1,true,[],[]),(3,false,[],[0,2,3])] ⟨?_,?_,trivial⟩
         ·refine zV 0 ⟨73,2,5,[(2,.pl (.one (.ref 2 []))),(4,.pl (.one (.ref 3 []))),(6,.pl (.one (.ref 4 []))),(22,.pl (.one (.v (.list false 2 (List.map (zE false) s.Files))))),(23,.pl (.one (.v (.sc (.int .i64 (s.Files.length:Int)))))),(24,.pl (.one (.v (.sc (.int .i64 x24))))),(44,.pl (.one (.v (.sc (.int .i64 (x.Parents.length:Int)))))),(45,.pl (.one (.v (.sc (.int .i64 x45))))),(48,.pl (.one (.addr 3 [] 0 0 4))),(50,.pl (.one (.v (.sc (.int .i64 x45)))))],[(2,.box true [.sc (.int .i64 0),.sc (.int .i64 0),.sc (.int .i64 0),.sc (.int .i64 0),.sc (.int .i64 0),.sc (.int .i64 0)]),(3,.box true [.sc (.int .i64 (s.Commits.length:Int)),.sc (.int .i64 (s.Files.length:Int)),.sc (.int .i64 (wk .i64 (out__4+(x.Parents.length:Int)))),.sc (.int .i64 (wk .i64 (out__5+(x.Bodies.length:Int)))),.sc (.int .i64 out__14),.sc (.int .i64 out__7)]),(4,.box true [.list false 1 (List.map (rL false 1 (rK .i64)) x.Parents),.list false 4 (List.map (zC false) x.Bodies)])]⟩ ?_
          refine ops H' ?_
          refine zG ⟨rfl,shd [49,2,4,6,22,23,24,44,45,48,50] [(2,2),(3,3),(4,4)] 5 rfl⟩
         ·refine obMx ⟨73,2,5,[(2,.pl (.one (.ref 2 []))),(4,.pl (.one (.ref 3 []))),(6,.pl (.one (.ref 4 []))),(22,.pl (.one (.v (.list false 2 (List.map (zE false) s.Files))))),(23,.pl (.one (.v (.sc (.int .i64 (s.Files.length:Int)))))),(24,.pl (.one (.v (.sc (.int .i64 x24))))),(44,.pl (.one (.v (.sc (.int .i64 (x.Parents.length:Int)))))),(45,.pl (.one (.v (.sc (.int .i64 x45))))),(48,.pl (.one (.addr 3 [] 0 0 4))),(50,.pl (.one (.v (.sc (.int .i64 x45)))))],[(2,.box true [.sc (.int .i64 0),.sc (.int .i64 0),.sc (.int .i64 0),.sc (.int .i64 0),.sc (.int .i64 0),.sc (.int .i64 0)]),(3,.box true [.sc (.int .i64 (s.Commits.length:Int)),.sc (.int .i64 (s.Files.length:Int)),.sc (.int .i64 (wk .i64 (out__4+(x.Parents.length:Int)))),.sc (.int .i64 (wk .i64 (out__5+(x.Bodies.length:Int)))),.sc (.int .i64 out__14),.sc (.int .i64 out__7)]),(4,.box true [.list false 1 (List.map (rL false 1 (rK .i64)) x.Parents),.list false 4 (List.map (zC false) x.Bodies)])]⟩ ?_
          refine zY H' (fun _=>[]) (W_impl_Weave_extract _ _ _ hy_x51) ?_
          refine zG ⟨rfl,.inl ⟨rfl,?_⟩⟩
          exact qF [2,4,6,22,23,24,44,45,48,51] [(2,2),(3,3),(4,4),(5,5)] 6 d12_0_0_2'
        refine fpure H' 0 [0] [(1,49),(4,52),(5,53)] ?_
        refine fpure H' 2 [0,2] [(1,49),(4,52),(5,53)] ?_
        exact qF [2,4,6,22,23,24,44,45,48,50] [(2,2),(3,3),(4,4)] 5 d12_0_0_3'
       ·rintro e' rfl
        refine contN ?_
        refine zA ?_
        refine ops H' ?_
        refine zF ?_
        obtain rfl:=zso h2'
        exact shd [2,4,6,22,23,24,44,45] [(2,2),(3,3),(4,4)] 5 ⟨_,rfl,_,_,rfl,rfl⟩
      ·replace h2':=(ifF hc').symm.trans h2'
       refine qJ ?_
       obtain rfl:=zso h2'
       refine ⟨_,rfl,fun hr'=>?_⟩
       subst hr'
       exact shd [2,4,6,22,23,24] [(2,2),(3,3),(4,4)] 5 ⟨_,h1',rfl⟩
     ·rintro e' ⟨out__12,h1',rfl⟩
      unfold impl_StatsOf_j3 at h1'
      refine zB ?_
      refine zA ?_
      refine ops H' ?_
      refine zF ?_
      obtain ⟨p_1,hl',h1'⟩:=zbi h1'
      refine zI ?_
      refine zR (fun s' e'=>∃ x59 out__13,s'=(x59,out__13)∧e'=⟨73,2,4,[(2,.pl (.one (.ref 2 []))),(4,.pl (.one (.ref 3 []))),(22,.pl (.one (.v (.list false 2 (List.map (zE false) s.Files))))),(23,.pl (.one (.v (.sc (.int .i64 (s.Files.length:Int)))))),(24,.pl (.one (.v (.sc (.int .i64 x24))))),(57,.pl (.one (.v (.list false 4 (List.map (zC false) x.Bodies))))),(58,.pl (.one (.v (.sc (.int .i64 (x.Bodies.length:Int)))))),(59,.pl (.one (.v (.sc (.int .i64 x59)))))],[(2,.box true [.sc (.int .i64 0),.sc (.int .i64 0),.sc (.int .i64 0),.sc (.int .i64 0),.sc (.int .i64 0),.sc (.int .i64 0)]),(3,.box true [.sc (.int .i64 (s.Commits.length:Int)),.sc (.int .i64 (s.Files.length:Int)),.sc (.int .i64 (wk .i64 (out__4+(x.Parents.length:Int)))),.sc (.int .i64 (wk .i64 (out__5+(x.Bodies.length:Int)))),.sc (.int .i64 out__12),.sc (.int .i64 out__13)])]⟩) hl' (shd [2,4,22,23,24,57,58,59] [(2,2),(3,3)] 4 ⟨_,_,rfl,rfl⟩) ?_
      rintro s' y2' e' h2' ⟨x59,out__13,rfl,rfl⟩
      replace h2':impl_StatsOf_l2 x x59 out__13=some y2':=h2'
      unfold impl_StatsOf_l2 at h2'
      refine zB ?_
      refine zA ?_
      refine ops H' ?_
      refine zF ?_
      refine zB ?_
      refine zH (fun hc'=>?_) (fun hc'=>?_)
      ·replace h2':=(ifT hc').symm.trans h2'
       refine zM ?_
       refine zB ?_
       refine zI ?_
       refine zB ?_
       refine zA ?_
       obtain ⟨x_1,hv',h2'⟩:=zbi h2'
       have H':=And.intro (zS hv') H'
       refine ops H' ?_
       refine zF ?_
       refine zA ?_
       refine ops H' ?_
       refine zF ?_
       refine zA ?_
       refine ops H' ?_
       refine zF ?_
       obtain rfl:=zso h2'
       exact shd [2,4,22,23,24,57,58,59] [(2,2),(3,3)] 4 ⟨_,rfl,_,_,rfl,rfl⟩
      ·replace h2':=(ifF hc').symm.trans h2'
       refine qJ ?_
       obtain rfl:=zso h2'
       refine ⟨_,rfl,fun hr'=>?_⟩
       subst hr'
       exact shd [2,4,22,23,24] [(2,2),(3,3)] 4 ⟨_,_,_,_,h1',rfl⟩
    ·rintro e' ⟨out__8,out__9,out__10,out__11,h1',rfl⟩
     unfold impl_StatsOf_j2 at h1'
     refine zA ?_
     refine ops H' ?_
     refine zF ?_
     obtain rfl:=zso h1'
     exact shd [2,4,22,23,24] [(2,2),(3,3)] 4 ⟨_,rfl,_,_,_,_,_,rfl,rfl⟩
   ·replace h1':=(ifF hc').symm.trans h1'
    refine qJ ?_
    obtain rfl:=zso h1'
    refine ⟨_,rfl,fun hr'=>?_⟩
    subst hr'
    exact shd [2,4] [(2,2),(3,3)] 4 ⟨_,_,_,_,h0',rfl⟩
  ·rintro e' ⟨out_,out__1,out__2,out__3,h0',rfl⟩
   unfold impl_StatsOf_j1 at h0'
   refine zB ?_
   refine zA ?_
   refine ops H' ?_
   refine zF ?_
   refine zN ?_
   obtain rfl:=zso h0'
   exact outC H' rfl rfl
theorem W_laws_eqStats (a:T_impl_Stats) (b:T_impl_Stats) (r':Bool) (h0':laws_eqStats a b=some r'):Fn X 31 [.agg [.sc (.int .i64 a.Commits),.sc (.int .i64 a.Files),.sc (.int .i64 a.Versions),.sc (.int .i64 a.Bodies),.sc (.int .i64 a.Whole),.sc (.int .i64 a.Bytes)],.agg [.sc (.int .i64 b.Commits),.sc (.int .i64 b.Files),.sc (.int .i64 b.Versions),.sc (.int .i64 b.Bodies),.sc (.int .i64 b.Whole),.sc (.int .i64 b.Bytes)]] [.one (.sc (.bool r'))] []:=by
 have H':=And.intro t3 (t57)
 unfold laws_eqStats at h0'
 refine Fn.start (fn:=f31) (N:=35) (res:=[.tmp 4]) rfl rfl rfl rfl rfl (by simp) ?_
 refine zW H' ?_
 refine zB ?_
 refine zA ?_
 refine ops H' ?_
 refine zF ?_
 refine zB ?_
 refine zB ?_
 refine zA ?_
 refine ops H' ?_
 refine zF ?_
 refine zH (fun hc'=>?_) (fun hc'=>?_)
 ·replace h0':=(ifT hc').symm.trans h0'
  refine zB ?_
  refine zA ?_
  refine ops H' ?_
  refine zF ?_
  refine zN ?_
  obtain rfl:=zso h0'
  exact zP H' rfl rfl
 ·replace h0':=(ifF hc').symm.trans h0'
  refine zM ?_
  refine zB ?_
  refine zB ?_
  refine zA ?_
  refine ops H' ?_
  refine zF ?_
  refine zH (fun hc'=>?_) (fun hc'=>?_)
  ·replace h0':=(ifT hc').symm.trans h0'
   refine zB ?_
   refine zA ?_
   refine ops H' ?_
   refine zF ?_
   refine zN ?_
   obtain rfl:=zso h0'
   exact zP H' rfl rfl
  ·replace h0':=(ifF hc').symm.trans h0'
   refine zM ?_
   refine zB ?_
   refine zB ?_
   refine zA ?_
   refine ops H' ?_
   refine zF ?_
   refine zH (fun hc'=>?_) (fun hc'=>?_)
   ·replace h0':=(ifT hc').symm.trans h0'
    refine zB ?_
    refine zA ?_
    refine ops H' ?_
    refine zF ?_
    refine zN ?_
    obtain rfl:=zso h0'
    exact zP H' rfl rfl
   ·replace h0':=(ifF hc').symm.trans h0'
    refine zM ?_
    refine zB ?_
    refine zB ?_
    refine zA ?_
    refine ops H' ?_
    refine zF ?_
    refine zH (fun hc'=>?_) (fun hc'=>?_)
    ·replace h0':=(ifT hc').symm.trans h0'
     refine zB ?_
     refine zA ?_
     refine ops H' ?_
     refine zF ?_
     refine zN ?_
     obtain rfl:=zso h0'
     exact zP H' rfl rfl
    ·replace h0':=(ifF hc').symm.trans h0'
     refine zM ?_
     refine zB ?_
     refine zB ?_
     refine zA ?_
     refine ops H' ?_
     refine zF ?_
     refine zH (fun hc'=>?_) (fun hc'=>?_)
     ·replace h0':=(ifT hc').symm.trans h0'
      refine zB ?_
      refine zA ?_
      refine ops H' ?_
      refine zF ?_
      refine zN ?_
      obtain rfl:=zso h0'
      exact zP H' rfl rfl
     ·replace h0':=(ifF hc').symm.trans h0'
      refine zM ?_
      refine zB ?_
      refine zB ?_
      refine zA ?_
      refine ops H' ?_
      refine zF ?_
      refine zH (fun hc'=>?_) (fun hc'=>?_)
      ·replace h0':=(ifT hc').symm.trans h0'
       refine zB ?_
       refine zA ?_
       refine ops H' ?_
       refine zF ?_
       refine zN ?_
       obtain rfl:=zso h0'
       exact zP H' rfl rfl
      ·replace h0':=(ifF hc').symm.trans h0'
       refine zM ?_
       refine zB ?_
       refine zA ?_
       refine ops H' ?_
       refine zF ?_
       refine zN ?_
       obtain rfl:=zso h0'
       exact zP H' rfl rfl
theorem W_laws_eqIntS (a:List Int) (b:List Int) (r':Bool) (h0':laws_eqIntS a b=some r'):Fn X 107 [.one (.list false 1 (List.map (rK .i64) a)),.one (.list false 1 (List.map (rK .i64) b))] [.one (.sc (.bool r'))] []:=by
 have H':=And.intro t3 (And.intro t43 (R_i64))
 unfold laws_eqIntS at h0'
 refine Fn.start (fn:=f107) (N:=26) (res:=[.tmp 4]) rfl rfl rfl rfl rfl (by simp) ?_
 refine zW H' ?_
 refine zB ?_
 refine zA ?_
 refine ops H' ?_
 refine zF ?_
 refine zB ?_
 refine zB ?_
 refine zA ?_
 refine ops H' ?_
 refine zF ?_
 refine zH (fun hc'=>?_) (fun hc'=>?_)
 ·replace h0':=(ifT hc').symm.trans h0'
  refine zB ?_
  refine zA ?_
  refine ops H' ?_
  refine zF ?_
  refine zN ?_
  obtain rfl:=zso h0'
  exact zP H' rfl rfl
 ·replace h0':=(ifF hc').symm.trans h0'
  refine zM ?_
  refine zU (fun e'=>laws_eqIntS_j1=some r'∧e'=⟨26,2,2,[],[]⟩) ?_ ?_
  ·refine zB ?_
   refine zA ?_
   refine ops H' ?_
   refine zF ?_
   obtain ⟨p,hl',h0'⟩:=zbi h0'
   refine zI ?_
   refine zR (fun i e'=>e'=⟨26,2,2,[(0,.pl (.one (.v (.list false 1 (List.map (rK .i64) a))))),(1,.pl (.one (.v (.list false 1 (List.map (rK .i64) b))))),(5,.pl (.one (.v (.sc (.int .i64 i)))))],[]⟩) hl' (shd [0,1,5] [] 2 rfl) ?_
   rintro i y1' e' h1' rfl
   replace h1':laws_eqIntS_l1 a b i=some y1':=h1'
   unfold laws_eqIntS_l1 at h1'
   refine zB ?_
   refine zB ?_
   refine zA ?_
   refine ops H' ?_
   refine zF ?_
   refine zH (fun hc'=>?_) (fun hc'=>?_)
   ·replace h1':=(ifT hc').symm.trans h1'
    refine zM ?_
    refine zB ?_
    refine zI ?_
    refine zB ?_
    refine regQ ?_
    obtain ⟨x,hv',h1'⟩:=zbi h1'
    have H':=And.intro (zS hv') H'
    obtain ⟨x_1,hv',h1'⟩:=zbi h1'
    have H':=And.intro (zS hv') H'
    refine ops H' ?_
    refine quN ?_
    refine zH (fun hc'=>?_) (fun hc'=>?_)
    ·replace h1':=(ifT hc').symm.trans h1'
     refine zB ?_
     refine zA ?_
     refine ops H' ?_
     refine zF ?_
     refine zN ?_
     obtain rfl:=zso h1'
     refine ⟨_,rfl,fun hr'=>?_⟩
     subst hr'
     obtain rfl:=zso h0'
     exact zP H' rfl rfl
    ·replace h1':=(ifF hc').symm.trans h1'
     refine zM ?_
     refine zA ?_
     refine ops H' ?_
     refine zF ?_
     obtain rfl:=zso h1'
     exact shd [0,1,5] [] 2 ⟨_,rfl,rfl⟩
   ·replace h1':=(ifF hc').symm.trans h1'
    refine qJ ?_
    obtain rfl:=zso h1'
    refine ⟨_,rfl,fun hr'=>?_⟩
    subst hr'
    exact shd [] [] 2 ⟨h0',rfl⟩
  ·rintro e' ⟨h0',rfl⟩
   unfold laws_eqIntS_j1 at h0'
   refine zB ?_
   refine zA ?_
   refine ops H' ?_
   refine zF ?_
   refine zN ?_
   obtain rfl:=zso h0'
   exact zP H' rfl rfl
theorem W_laws_eqName (a:T_impl_Name) (b:T_impl_Name) (r':Bool) (h0':laws_eqName a b=some r'):Fn X 191 [.agg [.sc (.string a.Path),.sc (.int .i64 a.Id),.sc (.int .i64 a.Version)],.agg [.sc (.string b.Path),.sc (.int .i64 b.Id),.sc (.int .i64 b.Version)]] [.one (.sc (.bool r'))] []:=by
 have H':=And.intro t3 (And.intro t9 (t204))
 unfold laws_eqName at h0'
 refine Fn.start (fn:=f191) (N:=20) (res:=[.tmp 4]) rfl rfl rfl rfl rfl (by simp) ?_
 refine zW H' ?_
 refine zB ?_
 refine zA ?_
 refine ops H' ?_
 refine zF ?_
 refine zB ?_
 refine zB ?_
 refine zA ?_
 refine ops H' ?_
 refine zF ?_
 refine zH (fun hc'=>?_) (fun hc'=>?_)
 ·replace h0':=(ifT hc').symm.trans h0'
  refine zB ?_
  refine zA ?_
  refine ops H' ?_
  refine zF ?_
  refine zN ?_
  obtain rfl:=zso h0'
  exact zP H' rfl rfl
 ·replace h0':=(ifF hc').symm.trans h0'
  refine zM ?_
  refine zB ?_
  refine zB ?_
  refine zA ?_
  refine ops H' ?_
  refine zF ?_
  refine zH (fun hc'=>?_) (fun hc'=>?_)
  ·replace h0':=(ifT hc').symm.trans h0'
   refine zB ?_
   refine zA ?_
   refine ops H' ?_
   refine zF ?_
   refine zN ?_
   obtain rfl:=zso h0'
   exact zP H' rfl rfl
  ·replace h0':=(ifF hc').symm.trans h0'
   refine zM ?_
   refine zB ?_
   refine zB ?_
   refine zA ?_
   refine ops H' ?_
   refine zF ?_
   refine zH (fun hc'=>?_) (fun hc'=>?_)
   ·replace h0':=(ifT hc').symm.trans h0'
    refine zB ?_
    refine zA ?_
    refine ops H' ?_
    refine zF ?_
    refine zN ?_
    obtain rfl:=zso h0'
    exact zP H' rfl rfl
   ·replace h0':=(ifF hc').symm.trans h0'
    refine zM ?_
    refine zB ?_
    refine zA ?_
    refine ops H' ?_
    refine zF ?_
    refine zN ?_
    obtain rfl:=zso h0'
    exact zP H' rfl rfl
theorem W_laws_eqNameS (a:List T_impl_Name) (b:List T_impl_Name) (r':Bool) (h0':laws_eqNameS a b=some r'):Fn X 172 [.one (.list false 3 (List.map (zL false) a)),.one (.list false 3 (List.map (zL false) b))] [.one (.sc (.bool r'))] []:=by
 have H':=And.intro t3 (And.intro t181 (And.intro t204 (qM)))
 unfold laws_eqNameS at h0'
 refine Fn.start (fn:=f172) (N:=27) (res:=[.tmp 4]) rfl rfl rfl rfl rfl (by simp) ?_
 refine zW H' ?_
 refine zB ?_
 refine zA ?_
 refine ops H' ?_
 refine zF ?_
 refine zB ?_
 refine zB ?_
 refine zA ?_
 refine ops H' ?_
 refine zF ?_
 refine zH (fun hc'=>?_) (fun hc'=>?_)
 ·replace h0':=(ifT hc').symm.trans h0'
  refine zB ?_
  refine zA ?_
  refine ops H' ?_
  refine zF ?_
  refine zN ?_
  obtain rfl:=zso h0'
  exact zP H' rfl rfl
 ·replace h0':=(ifF hc').symm.trans h0'
  refine zM ?_
  refine zU (fun e'=>laws_eqNameS_j1=some r'∧e'=⟨27,2,2,[],[]⟩) ?_ ?_
  ·refine zB ?_
   refine zA ?_
   refine ops H' ?_
   refine zF ?_
   obtain ⟨p,hl',h0'⟩:=zbi h0'
   refine zI ?_
   refine zR (fun i e'=>e'=⟨27,2,2,[(0,.pl (.one (.v (.list false 3 (List.map (zL false) a))))),(1,.pl (.one (.v (.list false 3 (List.map (zL false) b))))),(5,.pl (.one (.v (.sc (.int .i64 i)))))],[]⟩) hl' (shd [0,1,5] [] 2 rfl) ?_
   rintro i y1' e' h1' rfl
   replace h1':laws_eqNameS_l1 a b i=some y1':=h1'
   unfold laws_eqNameS_l1 at h1'
   refine zB ?_
   refine zB ?_
   refine zA ?_
   refine ops H' ?_
   refine zF ?_
   refine zH (fun hc'=>?_) (fun hc'=>?_)
   ·replace h1':=(ifT hc').symm.trans h1'
    refine zM ?_
    refine zB ?_
    refine zI ?_
    refine zB ?_
    refine regQ ?_
    obtain ⟨x,hv',h1'⟩:=zbi h1'
    have H':=And.intro (zS hv') H'
    obtain ⟨x_1,hv',h1'⟩:=zbi h1'
    have H':=And.intro (zS hv') H'
    refine ops H' ?_
    obtain ⟨x25,hy',h1'⟩:=zbi h1'
    refine callGQ H' (W_laws_eqName _ _ _ hy') ?_
    refine ops H' ?_
    refine quN ?_
    refine zH (fun hc'=>?_) (fun hc'=>?_)
    ·replace h1':=(ifT hc').symm.trans h1'
     refine zB ?_
     refine zA ?_
     refine ops H' ?_
     refine zF ?_
     refine zN ?_
     obtain rfl:=zso h1'
     refine ⟨_,rfl,fun hr'=>?_⟩
     subst hr'
     obtain rfl:=zso h0'
     exact zP H' rfl rfl
    ·replace h1':=(ifF hc').symm.trans h1'
     refine zM ?_
     refine zA ?_
     refine ops H' ?_
     refine zF ?_
     obtain rfl:=zso h1'
     exact shd [0,1,5] [] 2 ⟨_,rfl,rfl⟩
   ·replace h1':=(ifF hc').symm.trans h1'
    refine qJ ?_
    obtain rfl:=zso h1'
    refine ⟨_,rfl,fun hr'=>?_⟩
    subst hr'
    exact shd [] [] 2 ⟨h0',rfl⟩
  ·rintro e' ⟨h0',rfl⟩
   unfold laws_eqNameS_j1 at h0'
   refine zB ?_
   refine zA ?_
   refine ops H' ?_
   refine zF ?_
   refine zN ?_
   obtain rfl:=zso h0'
   exact zP H' rfl rfl
theorem W_laws_eqCommit (a:T_impl_Commit) (b:T_impl_Commit) (r':Bool) (h0':laws_eqCommit a b=some r'):Fn X 143 [.agg [.list false 1 (List.map (rK .i64) a.Parents),.sc (.string a.Note),.list false 3 (List.map (zL false) a.Names)],.agg [.list false 1 (List.map (rK .i64) b.Parents),.sc (.string b.Note),.list false 3 (List.map (zL false) b.Names)]] [.one (.sc (.bool r'))] []:=by
 have H':=And.intro t9 (And.intro t43 (And.intro t181 (And.intro t183 (And.intro qM (R_i64)))))
 unfold laws_eqCommit at h0'
 refine Fn.start (fn:=f143) (N:=22) (res:=[.tmp 4]) rfl rfl rfl rfl rfl (by simp) ?_
 refine zW H' ?_
 refine zB ?_
 refine zA ?_
 refine ops H' ?_
 refine zF ?_
 refine zB ?_
 refine zB ?_
 refine zA ?_
 refine ops H' ?_
 obtain ⟨x9,hy',h0'⟩:=zbi h0'
 refine zY H' (fun _=>[]) (W_laws_eqIntS _ _ _ hy') ?_
 refine ops H' ?_
 refine zF ?_
 refine zH (fun hc'=>?_) (fun hc'=>?_)
 ·replace h0':=(ifT hc').symm.trans h0'
  refine zB ?_
  refine zA ?_
  refine ops H' ?_
  refine zF ?_
  refine zN ?_
  obtain rfl:=zso h0'
  exact zP H' rfl rfl
 ·replace h0':=(ifF hc').symm.trans h0'
  refine zM ?_
  refine zB ?_
  refine zB ?_
  refine zA ?_
  refine ops H' ?_
  refine zF ?_
  refine zH (fun hc'=>?_) (fun hc'=>?_)
  ·replace h0':=(ifT hc').symm.trans h0'
   refine zB ?_
   refine zA ?_
   refine ops H' ?_
   refine zF ?_
   refine zN ?_
   obtain rfl:=zso h0'
   exact zP H' rfl rfl
  ·replace h0':=(ifF hc').symm.trans h0'
   refine zM ?_
   refine zB ?_
   refine zB ?_
   refine zA ?_
   refine ops H' ?_
   obtain ⟨x20,hy',h0'⟩:=zbi h0'
   refine zY H' (fun _=>[]) (W_laws_eqNameS _ _ _ hy') ?_
   refine ops H' ?_
   refine zF ?_
   refine zH (fun hc'=>?_) (fun hc'=>?_)
   ·replace h0':=(ifT hc').symm.trans h0'
    refine zB ?_
    refine zA ?_
    refine ops H' ?_
    refine zF ?_
    refine zN ?_
    obtain rfl:=zso h0'
    exact zP H' rfl rfl
   ·replace h0':=(ifF hc').symm.trans h0'
    refine zM ?_
    refine zB ?_
    refine zA ?_
    refine ops H' ?_
    refine zF ?_
    refine zN ?_
    obtain rfl:=zso h0'
    exact zP H' rfl rfl
theorem W_laws_eqCommitS (a:List T_impl_Commit) (b:List T_impl_Commit) (r':Bool) (h0':laws_eqCommitS a b=some r'):Fn X 90 [.one (.list false 3 (List.map (zD false) a)),.one (.list false 3 (List.map (zD false) b))] [.one (.sc (.bool r'))] []:=by
 have H':=And.intro t3 (And.intro t60 (And.intro t183 (And.intro qP (And.intro qM (R_i64)))))
 unfold laws_eqCommitS at h0'
 refine Fn.start (fn:=f90) (N:=27) (res:=[.tmp 4]) rfl rfl rfl rfl rfl (by simp) ?_
 refine zW H' ?_
 refine zB ?_
 refine zA ?_
 refine ops H' ?_
 refine zF ?_
 refine zB ?_
 refine zB ?_
 refine zA ?_
 refine ops H' ?_
 refine zF ?_
 refine zH (fun hc'=>?_) (fun hc'=>?_)
 ·replace h0':=(ifT hc').symm.trans h0'
  refine zB ?_
  refine zA ?_
  refine ops H' ?_
  refine zF ?_
  refine zN ?_
  obtain rfl:=zso h0'
  exact zP H' rfl rfl
 ·replace h0':=(ifF hc').symm.trans h0'
  refine zM ?_
  refine zU (fun e'=>laws_eqCommitS_j1=some r'∧e'=⟨27,2,2,[],[]⟩) ?_ ?_
  ·refine zB ?_
   refine zA ?_
   refine ops H' ?_
   refine zF ?_
   obtain ⟨p,hl',h0'⟩:=zbi h0'
   refine zI ?_
   refine zR (fun i e'=>e'=⟨27,2,2,[(0,.pl (.one (.v (.list false 3 (List.map (zD false) a))))),(1,.pl (.one (.v (.list false 3 (List.map (zD false) b))))),(5,.pl (.one (.v (.sc (.int .i64 i)))))],[]⟩) hl' (shd [0,1,5] [] 2 rfl) ?_
   rintro i y1' e' h1' rfl
   replace h1':laws_eqCommitS_l1 a b i=some y1':=h1'
   unfold laws_eqCommitS_l1 at h1'
   refine zB ?_
   refine zB ?_
   refine zA ?_
   refine ops H' ?_
   refine zF ?_
   refine zH (fun hc'=>?_) (fun hc'=>?_)
   ·replace h1':=(ifT hc').symm.trans h1'
    refine zM ?_
    refine zB ?_
    refine zI ?_
    refine zB ?_
    refine regQ ?_
    obtain ⟨x,hv',h1'⟩:=zbi h1'
    have H':=And.intro (zS hv') H'
    obtain ⟨x_1,hv',h1'⟩:=zbi h1'
    have H':=And.intro (zS hv') H'
    refine ops H' ?_
    obtain ⟨x25,hy',h1'⟩:=zbi h1'
    refine callGQ H' (W_laws_eqCommit _ _ _ hy') ?_
    refine ops H' ?_
    refine quN ?_
    refine zH (fun hc'=>?_) (fun hc'=>?_)
    ·replace h1':=(ifT hc').symm.trans h1'
     refine zB ?_
     refine zA ?_
     refine ops H' ?_
     refine zF ?_
     refine zN ?_
     obtain rfl:=zso h1'
     refine ⟨_,rfl,fun hr'=>?_⟩
     subst hr'
     obtain rfl:=zso h0'
     exact zP H' rfl rfl
    ·replace h1':=(ifF hc').symm.trans h1'
     refine zM ?_
     refine zA ?_
     refine ops H' ?_
     refine zF ?_
     obtain rfl:=zso h1'
     exact shd [0,1,5] [] 2 ⟨_,rfl,rfl⟩
   ·replace h1':=(ifF hc').symm.trans h1'
    refine qJ ?_
    obtain rfl:=zso h1'
    refine ⟨_,rfl,fun hr'=>?_⟩
    subst hr'
    exact shd [] [] 2 ⟨h0',rfl⟩
  ·rintro e' ⟨h0',rfl⟩
   unfold laws_eqCommitS_j1 at h0'
   refine zB ?_
   refine zA ?_
   refine ops H' ?_
   refine zF ?_
   refine zN ?_
   obtain rfl:=zso h0'
   exact zP H' rfl rfl
theorem W_laws_eqIntSS (a:List (List Int)) (b:List (List Int)) (r':Bool) (h0':laws_eqIntSS a b=some r'):Fn X 173 [.one (.list false 1 (List.map (rL false 1 (rK .i64)) a)),.one (.list false 1 (List.map (rL false 1 (rK .i64)) b))] [.one (.sc (.bool r'))] []:=by
 have H':=And.intro t3 (And.intro t30 (And.intro t43 (And.intro R_Li64 (R_i64))))
 unfold laws_eqIntSS at h0'
 refine Fn.start (fn:=f173) (N:=27) (res:=[.tmp 4]) rfl rfl rfl rfl rfl (by simp) ?_
 refine zW H' ?_
 refine zB ?_
 refine zA ?_
 refine ops H' ?_
 refine zF ?_
 refine zB ?_
 refine zB ?_
 refine zA ?_
 refine ops H' ?_
 refine zF ?_
 refine zH (fun hc'=>?_) (fun hc'=>?_)
 ·replace h0':=(ifT hc').symm.trans h0'
  refine zB ?_
  refine zA ?_
  refine ops H' ?_
  refine zF ?_
  refine zN ?_
  obtain rfl:=zso h0'
  exact zP H' rfl rfl
 ·replace h0':=(ifF hc').symm.trans h0'
  refine zM ?_
  refine zU (fun e'=>laws_eqIntSS_j1=some r'∧e'=⟨27,2,2,[],[]⟩) ?_ ?_
  ·refine zB ?_
   refine zA ?_
   refine ops H' ?_
   refine zF ?_
   obtain ⟨p,hl',h0'⟩:=zbi h0'
   refine zI ?_
   refine zR (fun i e'=>e'=⟨27,2,2,[(0,.pl (.one (.v (.list false 1 (List.map (rL false 1 (rK .i64)) a))))),(1,.pl (.one (.v (.list false 1 (List.map (rL false 1 (rK .i64)) b))))),(5,.pl (.one (.v (.sc (.int .i64 i)))))],[]⟩) hl' (shd [0,1,5] [] 2 rfl) ?_
   rintro i y1' e' h1' rfl
   replace h1':laws_eqIntSS_l1 a b i=some y1':=h1'
   unfold laws_eqIntSS_l1 at h1'
   refine zB ?_
   refine zB ?_
   refine zA ?_
   refine ops H' ?_
   refine zF ?_
   refine zH (fun hc'=>?_) (fun hc'=>?_)
   ·replace h1':=(ifT hc').symm.trans h1'
    refine zM ?_
    refine zB ?_
    refine zI ?_
    refine zB ?_
    refine regQ ?_
    obtain ⟨x,hv',h1'⟩:=zbi h1'
    have H':=And.intro (zS hv') H'
    obtain ⟨x_1,hv',h1'⟩:=zbi h1'
    have H':=And.intro (zS hv') H'
    refine ops H' ?_
    obtain ⟨x25,hy',h1'⟩:=zbi h1'
    refine callGQ H' (W_laws_eqIntS _ _ _ hy') ?_
    refine ops H' ?_
    refine quN ?_
    refine zH (fun hc'=>?_) (fun hc'=>?_)
    ·replace h1':=(ifT hc').symm.trans h1'
     refine zB ?_
     refine zA ?_
     refine ops H' ?_
     refine zF ?_
     refine zN ?_
     obtain rfl:=zso h1'
     refine ⟨_,rfl,fun hr'=>?_⟩
     subst hr'
     obtain rfl:=zso h0'
     exact zP H' rfl rfl
    ·replace h1':=(ifF hc').symm.trans h1'
     refine zM ?_
     refine zA ?_
     refine ops H' ?_
     refine zF ?_
     obtain rfl:=zso h1'
     exact shd [0,1,5] [] 2 ⟨_,rfl,rfl⟩
   ·replace h1':=(ifF hc').symm.trans h1'
    refine qJ ?_
    obtain rfl:=zso h1'
    refine ⟨_,rfl,fun hr'=>?_⟩
    subst hr'
    exact shd [] [] 2 ⟨h0',rfl⟩
  ·rintro e' ⟨h0',rfl⟩
   unfold laws_eqIntSS_j1 at h0'
   refine zB ?_
   refine zA ?_
   refine ops H' ?_
   refine zF ?_
   refine zN ?_
   obtain rfl:=zso h0'
   exact zP H' rfl rfl
theorem W_laws_eqBody (a:T_impl_Body) (b:T_impl_Body) (r':Bool) (h0':laws_eqBody a b=some r'):Fn X 192 [.agg [.sc (.string a.Line),.sc (.int .i64 a.Ins),.sc (.int .i64 a.Ord),.list false 1 (List.map (rK .i64) a.Dels)],.agg [.sc (.string b.Line),.sc (.int .i64 b.Ins),.sc (.int .i64 b.Ord),.list false 1 (List.map (rK .i64) b.Dels)]] [.one (.sc (.bool r'))] []:=by
 have H':=And.intro t3 (And.intro t9 (And.intro t43 (And.intro t110 (R_i64))))
 unfold laws_eqBody at h0'
 refine Fn.start (fn:=f192) (N:=26) (res:=[.tmp 4]) rfl rfl rfl rfl rfl (by simp) ?_
 refine zW H' ?_
 refine zB ?_
 refine zA ?_
 refine ops H' ?_
 refine zF ?_
 refine zB ?_
 refine zB ?_
 refine zA ?_
 refine ops H' ?_
 refine zF ?_
 refine zH (fun hc'=>?_) (fun hc'=>?_)
 ·replace h0':=(ifT hc').symm.trans h0'
  refine zB ?_
  refine zA ?_
  refine ops H' ?_
  refine zF ?_
  refine zN ?_
  obtain rfl:=zso h0'
  exact zP H' rfl rfl
 ·replace h0':=(ifF hc').symm.trans h0'
  refine zM ?_
  refine zB ?_
  refine zB ?_
  refine zA ?_
  refine ops H' ?_
  refine zF ?_
  refine zH (fun hc'=>?_) (fun hc'=>?_)
  ·replace h0':=(ifT hc').symm.trans h0'
   refine zB ?_
   refine zA ?_
   refine ops H' ?_
   refine zF ?_
   refine zN ?_
   obtain rfl:=zso h0'
   exact zP H' rfl rfl
  ·replace h0':=(ifF hc').symm.trans h0'
   refine zM ?_
   refine zB ?_
   refine zB ?_
   refine zA ?_
   refine ops H' ?_
   refine zF ?_
   refine zH (fun hc'=>?_) (fun hc'=>?_)
   ·replace h0':=(ifT hc').symm.trans h0'
    refine zB ?_
    refine zA ?_
    refine ops H' ?_
    refine zF ?_
    refine zN ?_
    obtain rfl:=zso h0'
    exact zP H' rfl rfl
   ·replace h0':=(ifF hc').symm.trans h0'
    refine zM ?_
    refine zB ?_
    refine zB ?_
    refine zA ?_
    refine ops H' ?_
    obtain ⟨x24,hy',h0'⟩:=zbi h0'
    refine zY H' (fun _=>[]) (W_laws_eqIntS _ _ _ hy') ?_
    refine ops H' ?_
    refine zF ?_
    refine zH (fun hc'=>?_) (fun hc'=>?_)
    ·replace h0':=(ifT hc').symm.trans h0'
     refine zB ?_
     refine zA ?_
     refine ops H' ?_
     refine zF ?_
     refine zN ?_
     obtain rfl:=zso h0'
     exact zP H' rfl rfl
    ·replace h0':=(ifF hc').symm.trans h0'
     refine zM ?_
     refine zB ?_
     refine zA ?_
     refine ops H' ?_
     refine zF ?_
     refine zN ?_
     obtain rfl:=zso h0'
     exact zP H' rfl rfl
theorem W_laws_eqBodyS (a:List T_impl_Body) (b:List T_impl_Body) (r':Bool) (h0':laws_eqBodyS a b=some r'):Fn X 174 [.one (.list false 4 (List.map (zC false) a)),.one (.list false 4 (List.map (zC false) b))] [.one (.sc (.bool r'))] []:=by
 have H':=And.intro t3 (And.intro t31 (And.intro t110 (And.intro qK (R_i64))))
 unfold laws_eqBodyS at h0'
 refine Fn.start (fn:=f174) (N:=27) (res:=[.tmp 4]) rfl rfl rfl rfl rfl (by simp) ?_
 refine zW H' ?_
 refine zB ?_
 refine zA ?_
 refine ops H' ?_
 refine zF ?_
 refine zB ?_
 refine zB ?_
 refine zA ?_
 refine ops H' ?_
 refine zF ?_
 refine zH (fun hc'=>?_) (fun hc'=>?_)
 ·replace h0':=(ifT hc').symm.trans h0'
  refine zB ?_
  refine zA ?_
  refine ops H' ?_
  refine zF ?_
  refine zN ?_
  obtain rfl:=zso h0'
  exact zP H' rfl rfl
 ·replace h0':=(ifF hc').symm.trans h0'
  refine zM ?_
  refine zU (fun e'=>laws_eqBodyS_j1=some r'∧e'=⟨27,2,2,[],[]⟩) ?_ ?_
  ·refine zB ?_
   refine zA ?_
   refine ops H' ?_
   refine zF ?_
   obtain ⟨p,hl',h0'⟩:=zbi h0'
   refine zI ?_
   refine zR (fun i e'=>e'=⟨27,2,2,[(0,.pl (.one (.v (.list false 4 (List.map (zC false) a))))),(1,.pl (.one (.v (.list false 4 (List.map (zC false) b))))),(5,.pl (.one (.v (.sc (.int .i64 i)))))],[]⟩) hl' (shd [0,1,5] [] 2 rfl) ?_
   rintro i y1' e' h1' rfl
   replace h1':laws_eqBodyS_l1 a b i=some y1':=h1'
   unfold laws_eqBodyS_l1 at h1'
   refine zB ?_
   refine zB ?_
   refine zA ?_
   refine ops H' ?_
   refine zF ?_
   refine zH (fun hc'=>?_) (fun hc'=>?_)
   ·replace h1':=(ifT hc').symm.trans h1'
    refine zM ?_
    refine zB ?_
    refine zI ?_
    refine zB ?_
    refine regQ ?_
    obtain ⟨x,hv',h1'⟩:=zbi h1'
    have H':=And.intro (zS hv') H'
    obtain ⟨x_1,hv',h1'⟩:=zbi h1'
    have H':=And.intro (zS hv') H'
    refine ops H' ?_
    obtain ⟨x25,hy',h1'⟩:=zbi h1'
    refine callGQ H' (W_laws_eqBody _ _ _ hy') ?_
    refine ops H' ?_
    refine quN ?_
    refine zH (fun hc'=>?_) (fun hc'=>?_)
    ·replace h1':=(ifT hc').symm.trans h1'
     refine zB ?_
     refine zA ?_
     refine ops H' ?_
     refine zF ?_
     refine zN ?_
     obtain rfl:=zso h1'
     refine ⟨_,rfl,fun hr'=>?_⟩
     subst hr'
     obtain rfl:=zso h0'
     exact zP H' rfl rfl
    ·replace h1':=(ifF hc').symm.trans h1'
     refine zM ?_
     refine zA ?_
     refine ops H' ?_
     refine zF ?_
     obtain rfl:=zso h1'
     exact shd [0,1,5] [] 2 ⟨_,rfl,rfl⟩
   ·replace h1':=(ifF hc').symm.trans h1'
    refine qJ ?_
    obtain rfl:=zso h1'
    refine ⟨_,rfl,fun hr'=>?_⟩
    subst hr'
    exact shd [] [] 2 ⟨h0',rfl⟩
  ·rintro e' ⟨h0',rfl⟩
   unfold laws_eqBodyS_j1 at h0'
   refine zB ?_
   refine zA ?_
   refine ops H' ?_
   refine zF ?_
   refine zN ?_
   obtain rfl:=zso h0'
   exact zP H' rfl rfl
theorem W_laws_eqWeave (a:T_impl_Weave) (b:T_impl_Weave) (r':Bool) (h0':laws_eqWeave a b=some r'):Fn X 144 [.agg [.list false 1 (List.map (rL false 1 (rK .i64)) a.Parents),.list false 4 (List.map (zC false) a.Bodies)],.agg [.list false 1 (List.map (rL false 1 (rK .i64)) b.Parents),.list false 4 (List.map (zC false) b.Bodies)]] [.one (.sc (.bool r'))] []:=by
 have H':=And.intro t30 (And.intro t31 (And.intro t33 (And.intro R_Li64 (And.intro qK (R_i64)))))
 unfold laws_eqWeave at h0'
 refine Fn.start (fn:=f144) (N:=17) (res:=[.tmp 4]) rfl rfl rfl rfl rfl (by simp) ?_
 refine zW H' ?_
 refine zB ?_
 refine zA ?_
 refine ops H' ?_
 refine zF ?_
 refine zB ?_
 refine zB ?_
 refine zA ?_
 refine ops H' ?_
 obtain ⟨x9,hy',h0'⟩:=zbi h0'
 refine zY H' (fun _=>[]) (W_laws_eqIntSS _ _ _ hy') ?_
 refine ops H' ?_
 refine zF ?_
 refine zH (fun hc'=>?_) (fun hc'=>?_)
 ·replace h0':=(ifT hc').symm.trans h0'
  refine zB ?_
  refine zA ?_
  refine ops H' ?_
  refine zF ?_
  refine zN ?_
  obtain rfl:=zso h0'
  exact zP H' rfl rfl
 ·replace h0':=(ifF hc').symm.trans h0'
  refine zM ?_
  refine zB ?_
  refine zB ?_
  refine zA ?_
  refine ops H' ?_
  obtain ⟨x15,hy',h0'⟩:=zbi h0'
  refine zY H' (fun _=>[]) (W_laws_eqBodyS _ _ _ hy') ?_
  refine ops H' ?_
  refine zF ?_
  refine zH (fun hc'=>?_) (fun hc'=>?_)
  ·replace h0':=(ifT hc').symm.trans h0'
   refine zB ?_
   refine zA ?_
   refine ops H' ?_
   refine zF ?_
   refine zN ?_
   obtain rfl:=zso h0'
   exact zP H' rfl rfl
  ·replace h0':=(ifF hc').symm.trans h0'
   refine zM ?_
   refine zB ?_
   refine zA ?_
   refine ops H' ?_
   refine zF ?_
   refine zN ?_
   obtain rfl:=zso h0'
   exact zP H' rfl rfl
theorem W_laws_eqWeaveS (a:List T_impl_Weave) (b:List T_impl_Weave) (r':Bool) (h0':laws_eqWeaveS a b=some r'):Fn X 91 [.one (.list false 2 (List.map (zE false) a)),.one (.list false 2 (List.map (zE false) b))] [.one (.sc (.bool r'))] []:=by
 have H':=And.intro t3 (And.intro t33 (And.intro t61 (And.intro R_Li64 (And.intro qK (And.intro jA (R_i64))))))
 unfold laws_eqWeaveS at h0'
 refine Fn.start (fn:=f91) (N:=27) (res:=[.tmp 4]) rfl rfl rfl rfl rfl (by simp) ?_
 refine zW H' ?_
 refine zB ?_
 refine zA ?_
 refine ops H' ?_
 refine zF ?_
 refine zB ?_
 refine zB ?_
 refine zA ?_
 refine ops H' ?_
 refine zF ?_
 refine zH (fun hc'=>?_) (fun hc'=>?_)
 ·replace h0':=(ifT hc').symm.trans h0'
  refine zB ?_
  refine zA ?_
  refine ops H' ?_
  refine zF ?_
  refine zN ?_
  obtain rfl:=zso h0'
  exact zP H' rfl rfl
 ·replace h0':=(ifF hc').symm.trans h0'
  refine zM ?_
  refine zU (fun e'=>laws_eqWeaveS_j1=some r'∧e'=⟨27,2,2,[],[]⟩) ?_ ?_
  ·refine zB ?_
   refine zA ?_
   refine ops H' ?_
   refine zF ?_
   obtain ⟨p,hl',h0'⟩:=zbi h0'
   refine zI ?_
   refine zR (fun i e'=>e'=⟨27,2,2,[(0,.pl (.one (.v (.list false 2 (List.map (zE false) a))))),(1,.pl (.one (.v (.list false 2 (List.map (zE false) b))))),(5,.pl (.one (.v (.sc (.int .i64 i)))))],[]⟩) hl' (shd [0,1,5] [] 2 rfl) ?_
   rintro i y1' e' h1' rfl
   replace h1':laws_eqWeaveS_l1 a b i=some y1':=h1'
   unfold laws_eqWeaveS_l1 at h1'
   refine zB ?_
   refine zB ?_
   refine zA ?_
   refine ops H' ?_
   refine zF ?_
   refine zH (fun hc'=>?_) (fun hc'=>?_)
   ·replace h1':=(ifT hc').symm.trans h1'
    refine zM ?_
    refine zB ?_
    refine zI ?_
    refine zB ?_
    refine regQ ?_
    obtain ⟨x,hv',h1'⟩:=zbi h1'
    have H':=And.intro (zS hv') H'
    obtain ⟨x_1,hv',h1'⟩:=zbi h1'
    have H':=And.intro (zS hv') H'
    refine ops H' ?_
    obtain ⟨x25,hy',h1'⟩:=zbi h1'
    refine callGQ H' (W_laws_eqWeave _ _ _ hy') ?_
    refine ops H' ?_
    refine quN ?_
    refine zH (fun hc'=>?_) (fun hc'=>?_)
    ·replace h1':=(ifT hc').symm.trans h1'
     refine zB ?_
     refine zA ?_
     refine ops H' ?_
     refine zF ?_
     refine zN ?_
     obtain rfl:=zso h1'
     refine ⟨_,rfl,fun hr'=>?_⟩
     subst hr'
     obtain rfl:=zso h0'
     exact zP H' rfl rfl
    ·replace h1':=(ifF hc').symm.trans h1'
     refine zM ?_
     refine zA ?_
     refine ops H' ?_
     refine zF ?_
     obtain rfl:=zso h1'
     exact shd [0,1,5] [] 2 ⟨_,rfl,rfl⟩
   ·replace h1':=(ifF hc').symm.trans h1'
    refine qJ ?_
    obtain rfl:=zso h1'
    refine ⟨_,rfl,fun hr'=>?_⟩
    subst hr'
    exact shd [] [] 2 ⟨h0',rfl⟩
  ·rintro e' ⟨h0',rfl⟩
   unfold laws_eqWeaveS_j1 at h0'
   refine zB ?_
   refine zA ?_
   refine ops H' ?_
   refine zF ?_
   refine zN ?_
   obtain rfl:=zso h0'
   exact zP H' rfl rfl
theorem W_laws_eqStore (a:T_impl_Store) (b:T_impl_Store) (r':Bool) (h0':laws_eqStore a b=some r'):Fn X 32 [.agg [.list false 3 (List.map (zD false) a.Commits),.list false 2 (List.map (zE false) a.Files)],.agg [.list false 3 (List.map (zD false) b.Commits),.list false 2 (List.map (zE false) b.Files)]] [.one (.sc (.bool r'))] []:=by
 have H':=And.intro t60 (And.intro t61 (And.intro t63 (And.intro R_Li64 (And.intro qK (And.intro qP (And.intro qM (And.intro jA (R_i64))))))))
 unfold laws_eqStore at h0'
 refine Fn.start (fn:=f32) (N:=17) (res:=[.tmp 4]) rfl rfl rfl rfl rfl (by simp) ?_
 refine zW H' ?_
 refine zB ?_
 refine zA ?_
 refine ops H' ?_
 refine zF ?_
 refine zB ?_
 refine zB ?_
 refine zA ?_
 refine ops H' ?_
 obtain ⟨x9,hy',h0'⟩:=zbi h0'
 refine zY H' (fun _=>[]) (W_laws_eqCommitS _ _ _ hy') ?_
 refine ops H' ?_
 refine zF ?_
 refine zH (fun hc'=>?_) (fun hc'=>?_)
 ·replace h0':=(ifT hc').symm.trans h0'
  refine zB ?_
  refine zA ?_
  refine ops H' ?_
  refine zF ?_
  refine zN ?_
  obtain rfl:=zso h0'
  exact zP H' rfl rfl
 ·replace h0':=(ifF hc').symm.trans h0'
  refine zM ?_
  refine zB ?_
  refine zB ?_
  refine zA ?_
  refine ops H' ?_
  obtain ⟨x15,hy',h0'⟩:=zbi h0'
  refine zY H' (fun _=>[]) (W_laws_eqWeaveS _ _ _ hy') ?_
  refine ops H' ?_
  refine zF ?_
  refine zH (fun hc'=>?_) (fun hc'=>?_)
  ·replace h0':=(ifT hc').symm.trans h0'
   refine zB ?_
   refine zA ?_
   refine ops H' ?_
   refine zF ?_
   refine zN ?_
   obtain rfl:=zso h0'
   exact zP H' rfl rfl
  ·replace h0':=(ifF hc').symm.trans h0'
   refine zM ?_
   refine zB ?_
   refine zA ?_
   refine ops H' ?_
   refine zF ?_
   refine zN ?_
   obtain rfl:=zso h0'
   exact zP H' rfl rfl
theorem W_laws_FnExactStatsOf (aS:T_laws_Store) (r':Bool) (h0':laws_FnExactStatsOf aS=some r'):Fn X 6 [.agg [.list false 3 (List.map (zJ false) aS.Commits),.list false 2 (List.map (zK false) aS.Files)]] [.one (.sc (.bool r'))] []:=by
 have H':=And.intro t3 (And.intro t4 (And.intro t54 (And.intro t57 (And.intro t63 (And.intro R_Li64 (And.intro qK (And.intro qP (And.intro qM (And.intro jA (And.intro R_T_laws_Body (And.intro R_T_laws_Commit (And.intro R_T_laws_Name (And.intro R_T_laws_Weave (R_i64))))))))))))))
 unfold laws_FnExactStatsOf at h0'
 refine Fn.start (fn:=f6) (N:=41) (res:=[.tmp 2]) rfl rfl rfl rfl rfl (by simp) ?_
 refine zW H' ?_
 refine zB ?_
 refine zA ?_
 refine ops H' ?_
 refine zF ?_
 refine zB ?_
 refine zA ?_
 refine ops H' ?_
 refine zF ?_
 refine zB ?_
 refine zA ?_
 refine ops H' ?_
 obtain ⟨x11,hy',h0'⟩:=zbi h0'
 refine zY H' (fun _=>[]) (W_laws_szStore _ _ _ hy') ?_
 refine ops H' ?_
 refine zF ?_
 refine zB ?_
 refine zB ?_
 refine zA ?_
 refine ops H' ?_
 refine zF ?_
 refine zH (fun hc'=>?_) (fun hc'=>?_)
 ·replace h0':=(ifT hc').symm.trans h0'
  refine zB ?_
  refine zA ?_
  refine ops H' ?_
  refine zF ?_
  refine zN ?_
  obtain rfl:=zso h0'
  exact zP H' rfl rfl
 ·replace h0':=(ifF hc').symm.trans h0'
  refine zM ?_
  refine zB ?_
  refine zA ?_
  refine ops H' ?_
  obtain ⟨x16,hy',h0'⟩:=zbi h0'
  refine zY H' (fun _=>[]) (W_laws_toStore _ _ hy') ?_
  obtain ⟨x17,hy',h0'⟩:=zbi h0'
  refine zY H' (fun _=>[]) (W_spec_StatsOf _ _ hy') ?_
  refine ops H' ?_
  refine zF ?_
  refine zB ?_
  refine zA ?_
  refine ops H' ?_
  obtain ⟨x21,hy',h0'⟩:=zbi h0'
  refine zY H' (fun _=>[]) (W_laws_toStore _ _ hy') ?_
  refine ops H' ?_
  refine zF ?_
  refine zB ?_
  refine zA ?_
  refine ops H' ?_
  obtain ⟨x24,hy',h0'⟩:=zbi h0'
  refine zY H' (fun _=>[]) (W_impl_StatsOf _ _ hy') ?_
  refine ops H' ?_
  refine zF ?_
  refine zB ?_
  refine zB ?_
  refine zA ?_
  refine ops H' ?_
  obtain ⟨x29,hy',h0'⟩:=zbi h0'
  refine zY H' (fun _=>[]) (W_laws_eqStats _ _ _ hy') ?_
  refine ops H' ?_
  obtain ⟨b,gh0',h0'⟩:=zbi h0'
  refine qE 4 (fun e'=>e'=⟨41,2,4,[(1,.pl (.one (.ref 2 []))),(6,.pl (.one (.ref 3 []))),(35,.pl (.one (.v (.sc (.bool b)))))],[(2,.box true [.list false 3 (List.map (zJ false) aS.Commits),.list false 2 (List.map (zK false) aS.Files)]),(3,.box true [.list true 3 (List.map (zD true) x21.Commits),.list true 2 (List.map (zE true) x21.Files)])]⟩) ?_ ?_
  ·simp only [List.take_succ_cons,List.take_zero]
   refine qI (fun hc'=>?_) (fun hc'=>?_)
   ·replace gh0':=(ifF hc').symm.trans gh0'
    refine ops H' ?_
    obtain rfl:=zso gh0'
    refine zG ?_
    exact ⟨rfl,shd [1,6,35] [(2,2),(16,3)] 4 rfl⟩
   ·replace gh0':=(ifT hc').symm.trans gh0'
    refine ops H' ?_
    obtain rfl:=zso gh0'
    refine zG ?_
    exact ⟨rfl,shd [1,6,35] [(2,2),(16,3)] 4 rfl⟩
  ·rintro e' rfl
   simp only [List.drop_succ_cons,List.drop_zero]
   refine zF ?_
   refine zH (fun hc'=>?_) (fun hc'=>?_)
   ·replace h0':=(ifT hc').symm.trans h0'
    refine zB ?_
    refine zA ?_
    refine ops H' ?_
    refine zF ?_
    refine zN ?_
    obtain rfl:=zso h0'
    exact zP H' rfl rfl
   ·replace h0':=(ifF hc').symm.trans h0'
    refine zM ?_
    refine zB ?_
    refine zB ?_
    obtain ⟨x38,hy_x38,h0'⟩:=zbi h0'
    obtain ⟨x39,hy_x39,h0'⟩:=zbi h0'
    refine wpV_J (fun e'=>e'=⟨41,2,2,[(40,.pl (.one (.v (.sc (.bool (!x39))))))],[]⟩) ?_ ?_
    ·refine regAnyF [(1,37,.pl (.agg [.v (.list false 3 (List.map (zJ false) aS.Commits)),.v (.list false 2 (List.map (zK false) aS.Files))])),(3,39,.pl (.one (.v (.sc (.bool x39))))),(4,40,.pl (.one (.v (.sc (.bool (!x39))))))] ?_
     refine (?_:anyF X ?ops10_0_0 _ _ ?P10_0_0 _)
     have d10_0_0_0':anyF X ?ops10_0_0 [0,1,2] [(3,39,.pl (.one (.v (.sc (.bool x39))))),(4,40,.pl (.one (.v (.sc (.bool (!x39))))))] ?P10_0_0 ⟨41,2,5,[(36,.pl (.agg [.ref 2 [(0,0,0)],.ref 2 [(0,0,1)]])),(38,.pl (.agg [.ref 3 [],.ref 4 []]))],[(2,.box true [.list true 3 (List.map (zD true) x21.Commits),.list true 2 (List.map (zE true) x21.Files)]),(3,.list true 3 (List.map (zD true) x38.Commits)),(4,.list true 2 (List.map (zE true) x38.Files))]⟩:=by
      refine fend (e2:=⟨41,2,5,[(39,.pl (.one (.v (.sc (.bool x39))))),(40,.pl (.one (.v (.sc (.bool (!x39)))))),(36,.pl (.agg [.ref 2 [(0,0,0)],.ref 2 [(0,0,1)]])),(38,.pl (.agg [.ref 3 [],.ref 4 []]))],[(2,.box true [.list true 3 (List.map (zD true) x21.Commits),.list true 2 (List.map (zE true) x21.Files)]),(3,.list true 3 (List.map (zD true) x38.Commits)),(4,.list true 2 (List.map (zE true) x38.Files))]⟩) [3,4] [.q 3 39 (.pl (.one (.v (.sc (.bool x39))))) [],.q 4 40 (.pl (.one (.v (.sc (.bool (!x39)))))) [3]] [(3,39),(4,40)] [(3,true,[],[]),(4,true,[3],[])] ⟨?_,?_,trivial⟩ ⟨rfl,shd [40] [] 2 rfl⟩
      ·refine zV 0 ⟨41,2,5,[(36,.pl (.agg [.ref 2 [(0,0,0)],.ref 2 [(0,0,1)]])),(38,.pl (.agg [.ref 3 [],.ref 4 []]))],[(2,.box true [.list true 3 (List.map (zD true) x21.Commits),.list true 2 (List.map (zE true) x21.Files)]),(3,.list true 3 (List.map (zD true) x38.Commits)),(4,.list true 2 (List.map (zE true) x38.Files))]⟩ ?_
       refine zY H' (fun _=>[]) (W_laws_eqStore _ _ _ hy_x39) ?_
       refine zG ⟨rfl,shd [39,36,38] [(2,2),(3,3),(4,4)] 5 rfl⟩
      ·refine zV 1 ⟨41,2,5,[(39,.pl (.one (.v (.sc (.bool x39))))),(36,.pl (.agg [.ref 2 [(0,0,0)],.ref 2 [(0,0,1)]])),(38,.pl (.agg [.ref 3 [],.ref 4 []]))],[(2,.box true [.list true 3 (List.map (zD true) x21.Commits),.list true 2 (List.map (zE true) x21.Files)]),(3,.list true 3 (List.map (zD true) x38.Commits)),(4,.list true 2 (List.map (zE true) x38.Files))]⟩ ?_
       refine ops H' ?_
       refine zG ⟨rfl,shd [40,36,38] [(2,2),(3,3),(4,4)] 5 rfl⟩
     have d10_0_0_1':anyF X ?ops10_0_0 [0] [(1,37,.pl (.agg [.v (.list false 3 (List.map (zJ false) aS.Commits)),.v (.list false 2 (List.map (zK false) aS.Files))])),(3,39,.pl (.one (.v (.sc (.bool x39))))),(4,40,.pl (.one (.v (.sc (.bool (!x39))))))] ?P10_0_0 ⟨41,2,4,[(1,.pl (.one (.ref 2 []))),(36,.pl (.agg [.ref 3 [(0,0,0)],.ref 3 [(0,0,1)]]))],[(2,.box true [.list false 3 (List.map (zJ false) aS.Commits),.list false 2 (List.map (zK false) aS.Files)]),(3,.box true [.list true 3 (List.map (zD true) x21.Commits),.list true 2 (List.map (zE true) x21.Files)])]⟩:=by
      refine fnode [1] [.q 1 37 (.pl (.agg [.v (.list false 3 (List.map (zJ false) aS.Commits)),.v (.list false 2 (List.map (zK false) aS.Files))])) [],.m 2 [1] [0,1,2] [(3,39,.pl (.one (.v (.sc (.bool x39))))),(4,40,.pl (.one (.v (.sc (.bool (!x39))))))]] [(1,37),(3,39),(4,40)] [(1,true,[],[]),(2,false,[1],[0,1,2])] ⟨?_,?_,trivial⟩
      ·refine zV 0 ⟨41,2,4,[(1,.pl (.one (.ref 2 []))),(36,.pl (.agg [.ref 3 [(0,0,0)],.ref 3 [(0,0,1)]]))],[(2,.box true [.list false 3 (List.map (zJ false) aS.Commits),.list false 2 (List.map (zK false) aS.Files)]),(3,.box true [.list true 3 (List.map (zD true) x21.Commits),.list true 2 (List.map (zE true) x21.Files)])]⟩ ?_
       refine ops H' ?_
       refine zG ⟨rfl,shd [37,1,36] [(2,2),(3,3)] 4 rfl⟩
      ·refine obMx ⟨41,2,4,[(37,.pl (.agg [.v (.list false 3 (List.map (zJ false) aS.Commits)),.v (.list false 2 (List.map (zK false) aS.Files))])),(1,.pl (.one (.ref 2 []))),(36,.pl (.agg [.ref 3 [(0,0,0)],.ref 3 [(0,0,1)]]))],[(2,.box true [.list false 3 (List.map (zJ false) aS.Commits),.list false 2 (List.map (zK false) aS.Files)]),(3,.box true [.list true 3 (List.map (zD true) x21.Commits),.list true 2 (List.map (zE true) x21.Files)])]⟩ ?_
       refine zY H' (fun _=>[]) (W_laws_toStore _ _ hy_x38) ?_
       refine zG ⟨rfl,.inl ⟨rfl,?_⟩⟩
       exact qF [36,38] [(3,2),(4,3),(5,4)] 5 d10_0_0_0'
     have d10_0_0_2':anyF X ?ops10_0_0 [1,2] [(3,39,.pl (.one (.v (.sc (.bool x39))))),(4,40,.pl (.one (.v (.sc (.bool (!x39))))))] ?P10_0_0 ⟨41,2,5,[(6,.pl (.one (.ref 2 []))),(38,.pl (.agg [.ref 3 [],.ref 4 []]))],[(2,.box true [.list true 3 (List.map (zD true) x21.Commits),.list true 2 (List.map (zE true) x21.Files)]),(3,.list true 3 (List.map (zD true) x38.Commits)),(4,.list true 2 (List.map (zE true) x38.Files))]⟩:=by
      refine fnode [] [.m 0 [] [0,1,2] [(3,39,.pl (.one (.v (.sc (.bool x39))))),(4,40,.pl (.one (.v (.sc (.bool (!x39))))))]] [(3,39),(4,40)] [(0,false,[],[0,1,2])] ⟨?_,trivial⟩
      ·refine obMx ⟨41,2,5,[(6,.pl (.one (.ref 2 []))),(38,.pl (.agg [.ref 3 [],.ref 4 []]))],[(2,.box true [.list true 3 (List.map (zD true) x21.Commits),.list true 2 (List.map (zE true) x21.Files)]),(3,.list true 3 (List.map (zD true) x38.Commits)),(4,.list true 2 (List.map (zE true) x38.Files))]⟩ ?_
       refine ops H' ?_
       refine zG ⟨rfl,.inl ⟨rfl,?_⟩⟩
       exact qF [36,38] [(2,2),(3,3),(4,4)] 5 d10_0_0_0'
     have d10_0_0_3':anyF X ?ops10_0_0 [] [(1,37,.pl (.agg [.v (.list false 3 (List.map (zJ false) aS.Commits)),.v (.list false 2 (List.map (zK false) aS.Files))])),(3,39,.pl (.one (.v (.sc (.bool x39))))),(4,40,.pl (.one (.v (.sc (.bool (!x39))))))] ?P10_0_0 ⟨41,2,4,[(1,.pl (.one (.ref 2 []))),(6,.pl (.one (.ref 3 [])))],[(2,.box true [.list false 3 (List.map (zJ false) aS.Commits),.list false 2 (List.map (zK false) aS.Files)]),(3,.box true [.list true 3 (List.map (zD true) x21.Commits),.list true 2 (List.map (zE true) x21.Files)])]⟩:=by
      refine fnode [1] [.q 1 37 (.pl (.agg [.v (.list false 3 (List.map (zJ false) aS.Commits)),.v (.list false 2 (List.map (zK false) aS.Files))])) [],.m 0 [] [0] [(1,37,.pl (.agg [.v (.list false 3 (List.map (zJ false) aS.Commits)),.v (.list false 2 (List.map (zK false) aS.Files))])),(3,39,.pl (.one (.v (.sc (.bool x39))))),(4,40,.pl (.one (.v (.sc (.bool (!x39))))))],.m 2 [1] [1,2] [(3,39,.pl (.one (.v (.sc (.bool x39))))),(4,40,.pl (.one (.v (.sc (.bool (!x39))))))]] [(1,37),(3,39),(4,40)] [(1,true,[],[]),(0,false,[],[0]),(2,false,[1],[1,2])] ⟨?_,?_,?_,trivial⟩
      ·refine zV 0 ⟨41,2,4,[(1,.pl (.one (.ref 2 []))),(6,.pl (.one (.ref 3 [])))],[(2,.box true [.list false 3 (List.map (zJ false) aS.Commits),.list false 2 (List.map (zK false) aS.Files)]),(3,.box true [.list true 3 (List.map (zD true) x21.Commits),.list true 2 (List.map (zE true) x21.Files)])]⟩ ?_
       refine ops H' ?_
       refine zG ⟨rfl,shd [37,1,6] [(2,2),(3,3)] 4 rfl⟩
      ·refine obMx ⟨41,2,4,[(1,.pl (.one (.ref 2 []))),(6,.pl (.one (.ref 3 [])))],[(2,.box true [.list false 3 (List.map (zJ false) aS.Commits),.list false 2 (List.map (zK false) aS.Files)]),(3,.box true [.list true 3 (List.map (zD true) x21.Commits),.list true 2 (List.map (zE true) x21.Files)])]⟩ ?_
       refine ops H' ?_
       refine zG ⟨rfl,.inl ⟨rfl,?_⟩⟩
       exact qF [1,36] [(2,2),(3,3)] 4 d10_0_0_1'
      ·refine obMx ⟨41,2,4,[(37,.pl (.agg [.v (.list false 3 (List.map (zJ false) aS.Commits)),.v (.list false 2 (List.map (zK false) aS.Files))])),(1,.pl (.one (.ref 2 []))),(6,.pl (.one (.ref 3 [])))],[(2,.box true [.list false 3 (List.map (zJ false) aS.Commits),.list false 2 (List.map (zK false) aS.Files)]),(3,.box true [.list true 3 (List.map (zD true) x21.Commits),.list true 2 (List.map (zE true) x21.Files)])]⟩ ?_
       refine zY H' (fun _=>[]) (W_laws_toStore _ _ hy_x38) ?_
       refine zG ⟨rfl,.inl ⟨rfl,?_⟩⟩
       exact qF [6,38] [(3,2),(4,3),(5,4)] 5 d10_0_0_2'
     exact qF [1,6] [(2,2),(3,3)] 4 d10_0_0_3'
    ·rintro e' rfl
     refine contN ?_
     refine zH (fun hc'=>?_) (fun hc'=>?_)
     ·replace h0':=(ifT hc').symm.trans h0'
      refine zB ?_
      refine zA ?_
      refine ops H' ?_
      refine zF ?_
      refine zN ?_
      obtain rfl:=zso h0'
      exact zP H' rfl rfl
     ·replace h0':=(ifF hc').symm.trans h0'
      refine zM ?_
      refine zB ?_
      refine zA ?_
      refine ops H' ?_
      refine zF ?_
      refine zN ?_
      obtain rfl:=zso h0'
      exact zP H' rfl rfl
end Go.TV.KFnExactStatsOf
