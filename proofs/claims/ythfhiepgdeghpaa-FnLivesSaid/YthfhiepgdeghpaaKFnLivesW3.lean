/- Walks. -/
import Derived.Test.YthfhiepgdeghpaaKFnLivesE
import Derived.Test.YthfhiepgdeghpaaKFnLivesW0
import Derived.Test.YthfhiepgdeghpaaKFnLivesW2
set_option linter.unusedVariables false
set_option linter.unusedSimpArgs false
set_option maxHeartbeats 8000000
set_option maxRecDepth 100000
namespace Go.TV.KFnLives
attribute [local irreducible] anyV wpV opsV Does thenV blockV RetL quV seqV
open Go.Proofs.Try Go.TV.F
theorem W_spec_l06Right (c:T_spec_l01Cur) (n:Int) (r':T_impl_Weave×T_spec_l01Cur) (h0':spec_l06Right c n=some r'):Fn X 84 [.one (.box true [.list false 1 (List.map (rK .u8) c.b),.sc (.int .i64 c.i),.sc (.int .i64 c.h)]),.one (.sc (.int .i64 n))] [.agg [.list true 1 (List.map (rL true 1 (rK .i64)) r'.1.Parents),.list true 4 (List.map (zA true) r'.1.Bodies)]] [(0,.box true [.list false 1 (List.map (rK .u8) r'.2.b),.sc (.int .i64 r'.2.i),.sc (.int .i64 r'.2.h)])]:=by
 have H':=And.intro t3 (And.intro t9 (And.intro t38 (And.intro t39 (And.intro t41 (And.intro t55 (And.intro R_Li64 (And.intro qD (And.intro R_i64 (And.intro R_s (R_u8))))))))))
 unfold spec_l06Right at h0'
 refine Fn.start (fn:=f84) (N:=53) (res:=[.cell 4 41]) rfl rfl rfl rfl rfl (by simp) ?_
 refine zW H' ?_
 refine zC ?_
 refine zB ?_
 refine ops H' ?_
 refine zE ?_
 refine zC ?_
 refine zB ?_
 refine ops H' ?_
 refine zE ?_
 refine zU (fun e'=>∃ c_1 c_2 c_3 w w_1,spec_l06Right_j1 c_1 c_2 c_3 w w_1=some r'∧e'=⟨53,2,4,[(4,.pl (.one (.ref 2 []))),(5,.pl (.one (.ref 3 [])))],[(0,.box true [.list false 1 (List.map (rK .u8) c_1),.sc (.int .i64 c_2),.sc (.int .i64 c_3)]),(2,.box true [.list true 1 (List.map (rL true 1 (rK .i64)) []),.list true 4 (List.map (zA true) [])]),(3,.box true [.list true 1 (List.map (rL true 1 (rK .i64)) w),.list true 4 (List.map (zA true) w_1)])]⟩) ?_ ?_
 ·refine zC ?_
  refine zB ?_
  refine ops H' ?_
  refine zE ?_
  obtain ⟨p,hl',h0'⟩:=zbi h0'
  refine zJ ?_
  refine zX (fun s' e'=>∃ v c_4 c_5 c_6 w_2 w_3,s'=(v,c_4,c_5,c_6,w_2,w_3)∧e'=⟨53,2,4,[(0,.pl (.one (.ref 0 []))),(1,.pl (.one (.v (.sc (.int .i64 n))))),(4,.pl (.one (.ref 2 []))),(5,.pl (.one (.ref 3 []))),(6,.pl (.one (.v (.sc (.int .i64 v)))))],[(0,.box true [.list false 1 (List.map (rK .u8) c_4),.sc (.int .i64 c_5),.sc (.int .i64 c_6)]),(2,.box true [.list true 1 (List.map (rL true 1 (rK .i64)) []),.list true 4 (List.map (zA true) [])]),(3,.box true [.list true 1 (List.map (rL true 1 (rK .i64)) w_2),.list true 4 (List.map (zA true) w_3)])]⟩) hl' (shd [0,1,4,5,6] [(0,0),(2,2),(3,3)] 4 ⟨_,_,_,_,_,_,rfl,rfl⟩) ?_
  rintro s' y1' e' h1' ⟨v,c_4,c_5,c_6,w_2,w_3,rfl,rfl⟩
  replace h1':spec_l06Right_l1 n v c_4 c_5 c_6 w_2 w_3=some y1':=h1'
  unfold spec_l06Right_l1 at h1'
  refine zC ?_
  refine zC ?_
  refine zB ?_
  refine ops H' ?_
  refine zE ?_
  refine zH (fun hc'=>?_) (fun hc'=>?_)
  ·replace h1':=(ifT hc').symm.trans h1'
   refine zR ?_
   refine zC ?_
   refine zJ ?_
   refine zC ?_
   refine zB ?_
   refine ops H' ?_
   obtain ⟨x20,hy',h1'⟩:=zbi h1'
   refine callGD H' (fun _=>[0]) (W_spec_l05Parents _ _ _ hy') ?_
   refine ops H' ?_
   refine zE ?_
   refine zC ?_
   obtain ⟨x25,hy_x25,h1'⟩:=zbi h1'
   obtain ⟨x26,hy_x26,h1'⟩:=zbi h1'
   obtain ⟨x27,hy_x27,h1'⟩:=zbi h1'
   refine wpV_J (fun e'=>e'=⟨53,2,6,[(0,.pl (.one (.ref 0 []))),(1,.pl (.one (.v (.sc (.int .i64 n))))),(4,.pl (.one (.ref 2 []))),(5,.pl (.one (.ref 3 []))),(6,.pl (.one (.v (.sc (.int .i64 v))))),(7,.pl (.one (.ref 4 []))),(8,.pl (.one (.ref 5 [])))],[(0,.box true [.list false 1 (List.map (rK .u8) x27.2.b),.sc (.int .i64 x27.2.i),.sc (.int .i64 x27.2.h)]),(2,.box true [.list true 1 (List.map (rL true 1 (rK .i64)) []),.list true 4 (List.map (zA true) [])]),(3,.box true [.list true 1 (List.map (rL true 1 (rK .i64)) w_2),.list true 4 (List.map (zA true) w_3)]),(4,.list true 1 (List.map (rK .i64) x20.1)),(5,.list true 1 (List.map rS x27.1))]⟩) ?_ ?_
   ·refine regAnyF [] ?_
    refine (?_:zK X ?o0 _ _ ?P0 _)
    have d0':zK X ?o0 [0,1,2,3,4,5,6,7] [] ?P0 ⟨53,2,6,[(0,.pl (.one (.ref 0 []))),(1,.pl (.one (.v (.sc (.int .i64 n))))),(4,.pl (.one (.ref 2 []))),(5,.pl (.one (.ref 3 []))),(6,.pl (.one (.v (.sc (.int .i64 v))))),(7,.pl (.one (.ref 4 []))),(8,.pl (.one (.ref 5 [])))],[(0,.box true [.list false 1 (List.map (rK .u8) x27.2.b),.sc (.int .i64 x27.2.i),.sc (.int .i64 x27.2.h)]),(2,.box true [.list true 1 (List.map (rL true 1 (rK .i64)) []),.list true 4 (List.map (zA true) [])]),(3,.box true [.list true 1 (List.map (rL true 1 (rK .i64)) w_2),.list true 4 (List.map (zA true) w_3)]),(4,.list true 1 (List.map (rK .i64) x20.1)),(5,.list true 1 (List.map rS x27.1))]⟩:=by
     refine fend (e2:=⟨53,2,6,[(0,.pl (.one (.ref 0 []))),(1,.pl (.one (.v (.sc (.int .i64 n))))),(4,.pl (.one (.ref 2 []))),(5,.pl (.one (.ref 3 []))),(6,.pl (.one (.v (.sc (.int .i64 v))))),(7,.pl (.one (.ref 4 []))),(8,.pl (.one (.ref 5 [])))],[(0,.box true [.list false 1 (List.map (rK .u8) x27.2.b),.sc (.int .i64 x27.2.i),.sc (.int .i64 x27.2.h)]),(2,.box true [.list true 1 (List.map (rL true 1 (rK .i64)) []),.list true 4 (List.map (zA true) [])]),(3,.box true [.list true 1 (List.map (rL true 1 (rK .i64)) w_2),.list true 4 (List.map (zA true) w_3)]),(4,.list true 1 (List.map (rK .i64) x20.1)),(5,.list true 1 (List.map rS x27.1))]⟩) [] [] [] [] trivial ⟨rfl,shd [0,1,4,5,6,7,8] [(0,0),(2,2),(3,3),(4,4),(5,5)] 6 rfl⟩
    have d1':zK X ?o0 [0,1,2,3,4,5,6] [] ?P0 ⟨53,2,6,[(0,.pl (.one (.ref 0 []))),(1,.pl (.one (.v (.sc (.int .i64 n))))),(4,.pl (.one (.ref 2 []))),(5,.pl (.one (.ref 3 []))),(6,.pl (.one (.v (.sc (.int .i64 v))))),(7,.pl (.one (.ref 4 []))),(27,.pl (.one (.ref 5 [])))],[(0,.box true [.list false 1 (List.map (rK .u8) x27.2.b),.sc (.int .i64 x27.2.i),.sc (.int .i64 x27.2.h)]),(2,.box true [.list true 1 (List.map (rL true 1 (rK .i64)) []),.list true 4 (List.map (zA true) [])]),(3,.box true [.list true 1 (List.map (rL true 1 (rK .i64)) w_2),.list true 4 (List.map (zA true) w_3)]),(4,.list true 1 (List.map (rK .i64) x20.1)),(5,.list true 1 (List.map rS x27.1))]⟩:=by
     refine zL [] [.m 7 [] [0,1,2,3,4,5,6,7] []] [] [(7,false,[],[0,1,2,3,4,5,6,7])] ⟨?_,trivial⟩
     ·refine zM ⟨53,2,6,[(0,.pl (.one (.ref 0 []))),(1,.pl (.one (.v (.sc (.int .i64 n))))),(4,.pl (.one (.ref 2 []))),(5,.pl (.one (.ref 3 []))),(6,.pl (.one (.v (.sc (.int .i64 v))))),(7,.pl (.one (.ref 4 []))),(27,.pl (.one (.ref 5 [])))],[(0,.box true [.list false 1 (List.map (rK .u8) x27.2.b),.sc (.int .i64 x27.2.i),.sc (.int .i64 x27.2.h)]),(2,.box true [.list true 1 (List.map (rL true 1 (rK .i64)) []),.list true 4 (List.map (zA true) [])]),(3,.box true [.list true 1 (List.map (rL true 1 (rK .i64)) w_2),.list true 4 (List.map (zA true) w_3)]),(4,.list true 1 (List.map (rK .i64) x20.1)),(5,.list true 1 (List.map rS x27.1))]⟩ ?_
      refine ops H' ?_
      refine zD ⟨rfl,.inl ⟨rfl,?_⟩⟩
      exact zF [0,1,4,5,6,7,8] [(0,0),(2,2),(3,3),(4,4),(5,5)] 6 d0'
    have d2':zK X ?o0 [0,1,2,3,4,5] [] ?P0 ⟨53,2,6,[(0,.pl (.one (.ref 0 []))),(1,.pl (.one (.v (.sc (.int .i64 n))))),(4,.pl (.one (.ref 2 []))),(5,.pl (.one (.ref 3 []))),(6,.pl (.one (.v (.sc (.int .i64 v))))),(7,.pl (.one (.ref 4 []))),(21,.pl (.one (.ref 0 []))),(26,.pl (.one (.ref 5 [])))],[(0,.box true [.list false 1 (List.map (rK .u8) x20.2.b),.sc (.int .i64 x20.2.i),.sc (.int .i64 x20.2.h)]),(2,.box true [.list true 1 (List.map (rL true 1 (rK .i64)) []),.list true 4 (List.map (zA true) [])]),(3,.box true [.list true 1 (List.map (rL true 1 (rK .i64)) w_2),.list true 4 (List.map (zA true) w_3)]),(4,.list true 1 (List.map (rK .i64) x20.1)),(5,.list true 1 (List.map rS x26))]⟩:=by
     refine zL [] [.m 6 [] [0,1,2,3,4,5,6] []] [] [(6,false,[],[0,1,2,3,4,5,6])] ⟨?_,trivial⟩
     ·refine zM ⟨53,2,6,[(0,.pl (.one (.ref 0 []))),(1,.pl (.one (.v (.sc (.int .i64 n))))),(4,.pl (.one (.ref 2 []))),(5,.pl (.one (.ref 3 []))),(6,.pl (.one (.v (.sc (.int .i64 v))))),(7,.pl (.one (.ref 4 []))),(21,.pl (.one (.ref 0 []))),(26,.pl (.one (.ref 5 [])))],[(0,.box true [.list false 1 (List.map (rK .u8) x20.2.b),.sc (.int .i64 x20.2.i),.sc (.int .i64 x20.2.h)]),(2,.box true [.list true 1 (List.map (rL true 1 (rK .i64)) []),.list true 4 (List.map (zA true) [])]),(3,.box true [.list true 1 (List.map (rL true 1 (rK .i64)) w_2),.list true 4 (List.map (zA true) w_3)]),(4,.list true 1 (List.map (rK .i64) x20.1)),(5,.list true 1 (List.map rS x26))]⟩ ?_
      refine opsV_frz H' 5 ?_
      refine callGD H' (fun _=>[0]) (W_spec_l04Near _ _ _ hy_x27) ?_
      refine zD ⟨rfl,.inl ⟨rfl,?_⟩⟩
      exact zF [0,1,4,5,6,7,27] [(0,0),(2,2),(3,3),(4,4),(6,5)] 6 d1'
    have d3':zK X ?o0 [0,1,2,3,4] [] ?P0 ⟨53,2,6,[(0,.pl (.one (.ref 0 []))),(1,.pl (.one (.v (.sc (.int .i64 n))))),(4,.pl (.one (.ref 2 []))),(5,.pl (.one (.ref 3 []))),(6,.pl (.one (.v (.sc (.int .i64 v))))),(7,.pl (.one (.ref 4 []))),(21,.pl (.one (.ref 0 []))),(22,.pl (.agg [.ref 3 [(0,0,0)],.ref 3 [(0,0,1)]])),(25,.pl (.one (.ref 5 [])))],[(0,.box true [.list false 1 (List.map (rK .u8) x20.2.b),.sc (.int .i64 x20.2.i),.sc (.int .i64 x20.2.h)]),(2,.box true [.list true 1 (List.map (rL true 1 (rK .i64)) []),.list true 4 (List.map (zA true) [])]),(3,.box true [.list true 1 (List.map (rL true 1 (rK .i64)) w_2),.list true 4 (List.map (zA true) w_3)]),(4,.list true 1 (List.map (rK .i64) x20.1)),(5,.list true 1 (List.map (rK .i64) x25))]⟩:=by
     refine zL [] [.m 5 [] [0,1,2,3,4,5] []] [] [(5,false,[],[0,1,2,3,4,5])] ⟨?_,trivial⟩
     ·refine zM ⟨53,2,6,[(0,.pl (.one (.ref 0 []))),(1,.pl (.one (.v (.sc (.int .i64 n))))),(4,.pl (.one (.ref 2 []))),(5,.pl (.one (.ref 3 []))),(6,.pl (.one (.v (.sc (.int .i64 v))))),(7,.pl (.one (.ref 4 []))),(21,.pl (.one (.ref 0 []))),(22,.pl (.agg [.ref 3 [(0,0,0)],.ref 3 [(0,0,1)]])),(25,.pl (.one (.ref 5 [])))],[(0,.box true [.list false 1 (List.map (rK .u8) x20.2.b),.sc (.int .i64 x20.2.i),.sc (.int .i64 x20.2.h)]),(2,.box true [.list true 1 (List.map (rL true 1 (rK .i64)) []),.list true 4 (List.map (zA true) [])]),(3,.box true [.list true 1 (List.map (rL true 1 (rK .i64)) w_2),.list true 4 (List.map (zA true) w_3)]),(4,.list true 1 (List.map (rK .i64) x20.1)),(5,.list true 1 (List.map (rK .i64) x25))]⟩ ?_
      refine zO H' (fun _=>[]) (W_spec_l06Lines _ _ _ hy_x26) ?_
      refine zD ⟨rfl,.inl ⟨rfl,?_⟩⟩
      exact zF [0,1,4,5,6,7,21,26] [(0,0),(2,2),(3,3),(4,4),(6,5)] 6 d2'
    have d4':zK X ?o0 [0,1,2,3] [] ?P0 ⟨53,2,5,[(0,.pl (.one (.ref 0 []))),(1,.pl (.one (.v (.sc (.int .i64 n))))),(4,.pl (.one (.ref 2 []))),(5,.pl (.one (.ref 3 []))),(6,.pl (.one (.v (.sc (.int .i64 v))))),(7,.pl (.one (.ref 4 []))),(21,.pl (.one (.ref 0 []))),(22,.pl (.agg [.ref 3 [(0,0,0)],.ref 3 [(0,0,1)]])),(23,.pl (.agg [.ref 3 [(0,0,0)],.ref 3 [(0,0,1)]])),(24,.pl (.one (.ref 4 [])))],[(0,.box true [.list false 1 (List.map (rK .u8) x20.2.b),.sc (.int .i64 x20.2.i),.sc (.int .i64 x20.2.h)]),(2,.box true [.list true 1 (List.map (rL true 1 (rK .i64)) []),.list true 4 (List.map (zA true) [])]),(3,.box true [.list true 1 (List.map (rL true 1 (rK .i64)) w_2),.list true 4 (List.map (zA true) w_3)]),(4,.list true 1 (List.map (rK .i64) x20.1))]⟩:=by
     refine zL [] [.m 4 [] [0,1,2,3,4] []] [] [(4,false,[],[0,1,2,3,4])] ⟨?_,trivial⟩
     ·refine zM ⟨53,2,5,[(0,.pl (.one (.ref 0 []))),(1,.pl (.one (.v (.sc (.int .i64 n))))),(4,.pl (.one (.ref 2 []))),(5,.pl (.one (.ref 3 []))),(6,.pl (.one (.v (.sc (.int .i64 v))))),(7,.pl (.one (.ref 4 []))),(21,.pl (.one (.ref 0 []))),(22,.pl (.agg [.ref 3 [(0,0,0)],.ref 3 [(0,0,1)]])),(23,.pl (.agg [.ref 3 [(0,0,0)],.ref 3 [(0,0,1)]])),(24,.pl (.one (.ref 4 [])))],[(0,.box true [.list false 1 (List.map (rK .u8) x20.2.b),.sc (.int .i64 x20.2.i),.sc (.int .i64 x20.2.h)]),(2,.box true [.list true 1 (List.map (rL true 1 (rK .i64)) []),.list true 4 (List.map (zA true) [])]),(3,.box true [.list true 1 (List.map (rL true 1 (rK .i64)) w_2),.list true 4 (List.map (zA true) w_3)]),(4,.list true 1 (List.map (rK .i64) x20.1))]⟩ ?_
      refine zO H' (fun _=>[]) (W_spec_l06Seen _ _ _ hy_x25) ?_
      refine zD ⟨rfl,.inl ⟨rfl,?_⟩⟩
      exact zF [0,1,4,5,6,7,21,22,25] [(0,0),(2,2),(3,3),(4,4),(5,5)] 6 d3'
    have d5':zK X ?o0 [0,1,3] [] ?P0 ⟨53,2,5,[(0,.pl (.one (.ref 0 []))),(1,.pl (.one (.v (.sc (.int .i64 n))))),(4,.pl (.one (.ref 2 []))),(5,.pl (.one (.ref 3 []))),(6,.pl (.one (.v (.sc (.int .i64 v))))),(7,.pl (.one (.ref 4 []))),(21,.pl (.one (.ref 0 []))),(22,.pl (.agg [.ref 3 [(0,0,0)],.ref 3 [(0,0,1)]])),(24,.pl (.one (.ref 4 [])))],[(0,.box true [.list false 1 (List.map (rK .u8) x20.2.b),.sc (.int .i64 x20.2.i),.sc (.int .i64 x20.2.h)]),(2,.box true [.list true 1 (List.map (rL true 1 (rK .i64)) []),.list true 4 (List.map (zA true) [])]),(3,.box true [.list true 1 (List.map (rL true 1 (rK .i64)) w_2),.list true 4 (List.map (zA true) w_3)]),(4,.list true 1 (List.map (rK .i64) x20.1))]⟩:=by
     refine zL [] [.m 2 [] [0,1,2,3] []] [] [(2,false,[],[0,1,2,3])] ⟨?_,trivial⟩
     ·refine zM ⟨53,2,5,[(0,.pl (.one (.ref 0 []))),(1,.pl (.one (.v (.sc (.int .i64 n))))),(4,.pl (.one (.ref 2 []))),(5,.pl (.one (.ref 3 []))),(6,.pl (.one (.v (.sc (.int .i64 v))))),(7,.pl (.one (.ref 4 []))),(21,.pl (.one (.ref 0 []))),(22,.pl (.agg [.ref 3 [(0,0,0)],.ref 3 [(0,0,1)]])),(24,.pl (.one (.ref 4 [])))],[(0,.box true [.list false 1 (List.map (rK .u8) x20.2.b),.sc (.int .i64 x20.2.i),.sc (.int .i64 x20.2.h)]),(2,.box true [.list true 1 (List.map (rL true 1 (rK .i64)) []),.list true 4 (List.map (zA true) [])]),(3,.box true [.list true 1 (List.map (rL true 1 (rK .i64)) w_2),.list true 4 (List.map (zA true) w_3)]),(4,.list true 1 (List.map (rK .i64) x20.1))]⟩ ?_
      refine ops H' ?_
      refine zD ⟨rfl,.inl ⟨rfl,?_⟩⟩
      exact zF [0,1,4,5,6,7,21,22,23,24] [(0,0),(2,2),(3,3),(4,4)] 5 d4'
    have d6':zK X ?o0 [0,2,3,4] [] ?P0 ⟨53,2,6,[(0,.pl (.one (.ref 0 []))),(1,.pl (.one (.v (.sc (.int .i64 n))))),(4,.pl (.one (.ref 2 []))),(5,.pl (.one (.ref 3 []))),(6,.pl (.one (.v (.sc (.int .i64 v))))),(7,.pl (.one (.ref 4 []))),(21,.pl (.one (.ref 0 []))),(25,.pl (.one (.ref 5 [])))],[(0,.box true [.list false 1 (List.map (rK .u8) x20.2.b),.sc (.int .i64 x20.2.i),.sc (.int .i64 x20.2.h)]),(2,.box true [.list true 1 (List.map (rL true 1 (rK .i64)) []),.list true 4 (List.map (zA true) [])]),(3,.box true [.list true 1 (List.map (rL true 1 (rK .i64)) w_2),.list true 4 (List.map (zA true) w_3)]),(4,.list true 1 (List.map (rK .i64) x20.1)),(5,.list true 1 (List.map (rK .i64) x25))]⟩:=by
     refine zL [] [.m 1 [] [0,1,2,3,4] []] [] [(1,false,[],[0,1,2,3,4])] ⟨?_,trivial⟩
     ·refine zM ⟨53,2,6,[(0,.pl (.one (.ref 0 []))),(1,.pl (.one (.v (.sc (.int .i64 n))))),(4,.pl (.one (.ref 2 []))),(5,.pl (.one (.ref 3 []))),(6,.pl (.one (.v (.sc (.int .i64 v))))),(7,.pl (.one (.ref 4 []))),(21,.pl (.one (.ref 0 []))),(25,.pl (.one (.ref 5 [])))],[(0,.box true [.list false 1 (List.map (rK .u8) x20.2.b),.sc (.int .i64 x20.2.i),.sc (.int .i64 x20.2.h)]),(2,.box true [.list true 1 (List.map (rL true 1 (rK .i64)) []),.list true 4 (List.map (zA true) [])]),(3,.box true [.list true 1 (List.map (rL true 1 (rK .i64)) w_2),.list true 4 (List.map (zA true) w_3)]),(4,.list true 1 (List.map (rK .i64) x20.1)),(5,.list true 1 (List.map (rK .i64) x25))]⟩ ?_
      refine ops H' ?_
      refine zD ⟨rfl,.inl ⟨rfl,?_⟩⟩
      exact zF [0,1,4,5,6,7,21,22,25] [(0,0),(2,2),(3,3),(4,4),(5,5)] 6 d3'
    have d7':zK X ?o0 [0,2,3] [] ?P0 ⟨53,2,5,[(0,.pl (.one (.ref 0 []))),(1,.pl (.one (.v (.sc (.int .i64 n))))),(4,.pl (.one (.ref 2 []))),(5,.pl (.one (.ref 3 []))),(6,.pl (.one (.v (.sc (.int .i64 v))))),(7,.pl (.one (.ref 4 []))),(21,.pl (.one (.ref 0 []))),(23,.pl (.agg [.ref 3 [(0,0,0)],.ref 3 [(0,0,1)]])),(24,.pl (.one (.ref 4 [])))],[(0,.box true [.list false 1 (List.map (rK .u8) x20.2.b),.sc (.int .i64 x20.2.i),.sc (.int .i64 x20.2.h)]),(2,.box true [.list true 1 (List.map (rL true 1 (rK .i64)) []),.list true 4 (List.map (zA true) [])]),(3,.box true [.list true 1 (List.map (rL true 1 (rK .i64)) w_2),.list true 4 (List.map (zA true) w_3)]),(4,.list true 1 (List.map (rK .i64) x20.1))]⟩:=by
     refine zL [] [.m 1 [] [0,1,2,3] [],.m 4 [] [0,2,3,4] []] [] [(1,false,[],[0,1,2,3]),(4,false,[],[0,2,3,4])] ⟨?_,?_,trivial⟩
     ·refine zM ⟨53,2,5,[(0,.pl (.one (.ref 0 []))),(1,.pl (.one (.v (.sc (.int .i64 n))))),(4,.pl (.one (.ref 2 []))),(5,.pl (.one (.ref 3 []))),(6,.pl (.one (.v (.sc (.int .i64 v))))),(7,.pl (.one (.ref 4 []))),(21,.pl (.one (.ref 0 []))),(23,.pl (.agg [.ref 3 [(0,0,0)],.ref 3 [(0,0,1)]])),(24,.pl (.one (.ref 4 [])))],[(0,.box true [.list false 1 (List.map (rK .u8) x20.2.b),.sc (.int .i64 x20.2.i),.sc (.int .i64 x20.2.h)]),(2,.box true [.list true 1 (List.map (rL true 1 (rK .i64)) []),.list true 4 (List.map (zA true) [])]),(3,.box true [.list true 1 (List.map (rL true 1 (rK .i64)) w_2),.list true 4 (List.map (zA true) w_3)]),(4,.list true 1 (List.map (rK .i64) x20.1))]⟩ ?_
      refine ops H' ?_
      refine zD ⟨rfl,.inl ⟨rfl,?_⟩⟩
      exact zF [0,1,4,5,6,7,21,22,23,24] [(0,0),(2,2),(3,3),(4,4)] 5 d4'
     ·refine zM ⟨53,2,5,[(0,.pl (.one (.ref 0 []))),(1,.pl (.one (.v (.sc (.int .i64 n))))),(4,.pl (.one (.ref 2 []))),(5,.pl (.one (.ref 3 []))),(6,.pl (.one (.v (.sc (.int .i64 v))))),(7,.pl (.one (.ref 4 []))),(21,.pl (.one (.ref 0 []))),(23,.pl (.agg [.ref 3 [(0,0,0)],.ref 3 [(0,0,1)]])),(24,.pl (.one (.ref 4 [])))],[(0,.box true [.list false 1 (List.map (rK .u8) x20.2.b),.sc (.int .i64 x20.2.i),.sc (.int .i64 x20.2.h)]),(2,.box true [.list true 1 (List.map (rL true 1 (rK .i64)) []),.list true 4 (List.map (zA true) [])]),(3,.box true [.list true 1 (List.map (rL true 1 (rK .i64)) w_2),.list true 4 (List.map (zA true) w_3)]),(4,.list true 1 (List.map (rK .i64) x20.1))]⟩ ?_
      refine zO H' (fun _=>[]) (W_spec_l06Seen _ _ _ hy_x25) ?_
      refine zD ⟨rfl,.inl ⟨rfl,?_⟩⟩
      exact zF [0,1,4,5,6,7,21,25] [(0,0),(2,2),(3,3),(4,4),(5,5)] 6 d6'
    have d8':zK X ?o0 [0,3] [] ?P0 ⟨53,2,5,[(0,.pl (.one (.ref 0 []))),(1,.pl (.one (.v (.sc (.int .i64 n))))),(4,.pl (.one (.ref 2 []))),(5,.pl (.one (.ref 3 []))),(6,.pl (.one (.v (.sc (.int .i64 v))))),(7,.pl (.one (.ref 4 []))),(21,.pl (.one (.ref 0 []))),(24,.pl (.one (.ref 4 [])))],[(0,.box true [.list false 1 (List.map (rK .u8) x20.2.b),.sc (.int .i64 x20.2.i),.sc (.int .i64 x20.2.h)]),(2,.box true [.list true 1 (List.map (rL true 1 (rK .i64)) []),.list true 4 (List.map (zA true) [])]),(3,.box true [.list true 1 (List.map (rL true 1 (rK .i64)) w_2),.list true 4 (List.map (zA true) w_3)]),(4,.list true 1 (List.map (rK .i64) x20.1))]⟩:=by
     refine zL [] [.m 1 [] [0,1,3] [],.m 2 [] [0,2,3] []] [] [(1,false,[],[0,1,3]),(2,false,[],[0,2,3])] ⟨?_,?_,trivial⟩
     ·refine zM ⟨53,2,5,[(0,.pl (.one (.ref 0 []))),(1,.pl (.one (.v (.sc (.int .i64 n))))),(4,.pl (.one (.ref 2 []))),(5,.pl (.one (.ref 3 []))),(6,.pl (.one (.v (.sc (.int .i64 v))))),(7,.pl (.one (.ref 4 []))),(21,.pl (.one (.ref 0 []))),(24,.pl (.one (.ref 4 [])))],[(0,.box true [.list false 1 (List.map (rK .u8) x20.2.b),.sc (.int .i64 x20.2.i),.sc (.int .i64 x20.2.h)]),(2,.box true [.list true 1 (List.map (rL true 1 (rK .i64)) []),.list true 4 (List.map (zA true) [])]),(3,.box true [.list true 1 (List.map (rL true 1 (rK .i64)) w_2),.list true 4 (List.map (zA true) w_3)]),(4,.list true 1 (List.map (rK .i64) x20.1))]⟩ ?_
      refine ops H' ?_
      refine zD ⟨rfl,.inl ⟨rfl,?_⟩⟩
      exact zF [0,1,4,5,6,7,21,22,24] [(0,0),(2,2),(3,3),(4,4)] 5 d5'
     ·refine zM ⟨53,2,5,[(0,.pl (.one (.ref 0 []))),(1,.pl (.one (.v (.sc (.int .i64 n))))),(4,.pl (.one (.ref 2 []))),(5,.pl (.one (.ref 3 []))),(6,.pl (.one (.v (.sc (.int .i64 v))))),(7,.pl (.one (.ref 4 []))),(21,.pl (.one (.ref 0 []))),(24,.pl (.one (.ref 4 [])))],[(0,.box true [.list false 1 (List.map (rK .u8) x20.2.b),.sc (.int .i64 x20.2.i),.sc (.int .i64 x20.2.h)]),(2,.box true [.list true 1 (List.map (rL true 1 (rK .i64)) []),.list true 4 (List.map (zA true) [])]),(3,.box true [.list true 1 (List.map (rL true 1 (rK .i64)) w_2),.list true 4 (List.map (zA true) w_3)]),(4,.list true 1 (List.map (rK .i64) x20.1))]⟩ ?_
      refine ops H' ?_
      refine zD ⟨rfl,.inl ⟨rfl,?_⟩⟩
      exact zF [0,1,4,5,6,7,21,23,24] [(0,0),(2,2),(3,3),(4,4)] 5 d7'
    refine fpure H' 0 [0] [] ?_
    refine fpure H' 3 [0,3] [] ?_
    exact zF [0,1,4,5,6,7,21,24] [(0,0),(2,2),(3,3),(4,4)] 5 d8'
   ·rintro e' rfl
    refine contN ?_
    refine zU (fun e'=>∃ c_7 c_8 c_9 lines,spec_l06Right_j2 v w_2 w_3 x20 c_7 c_8 c_9 lines=some y1'∧e'=⟨53,2,6,[(0,.pl (.one (.ref 0 []))),(1,.pl (.one (.v (.sc (.int .i64 n))))),(4,.pl (.one (.ref 2 []))),(5,.pl (.one (.ref 3 []))),(6,.pl (.one (.v (.sc (.int .i64 v))))),(7,.pl (.one (.ref 4 []))),(8,.pl (.one (.ref 5 [])))],[(0,.box true [.list false 1 (List.map (rK .u8) c_7),.sc (.int .i64 c_8),.sc (.int .i64 c_9)]),(2,.box true [.list true 1 (List.map (rL true 1 (rK .i64)) []),.list true 4 (List.map (zA true) [])]),(3,.box true [.list true 1 (List.map (rL true 1 (rK .i64)) w_2),.list true 4 (List.map (zA true) w_3)]),(4,.list true 1 (List.map (rK .i64) x20.1)),(5,.list true 1 (List.map rS lines))]⟩) ?_ ?_
    ·refine zC ?_
     refine zB ?_
     refine ops H' ?_
     obtain ⟨b,gh1',h1'⟩:=zbi h1'
     refine qG 3 (fun e'=>e'=⟨53,2,6,[(0,.pl (.one (.ref 0 []))),(1,.pl (.one (.v (.sc (.int .i64 n))))),(4,.pl (.one (.ref 2 []))),(5,.pl (.one (.ref 3 []))),(6,.pl (.one (.v (.sc (.int .i64 v))))),(7,.pl (.one (.ref 4 []))),(8,.pl (.one (.ref 5 []))),(33,.pl (.one (.v (.sc (.bool b.1)))))],[(0,.box true [.list false 1 (List.map (rK .u8) b.2.1),.sc (.int .i64 b.2.2.1),.sc (.int .i64 b.2.2.2)]),(2,.box true [.list true 1 (List.map (rL true 1 (rK .i64)) []),.list true 4 (List.map (zA true) [])]),(3,.box true [.list true 1 (List.map (rL true 1 (rK .i64)) w_2),.list true 4 (List.map (zA true) w_3)]),(4,.list true 1 (List.map (rK .i64) x20.1)),(5,.list true 1 (List.map rS x27.1))]⟩) ?_ ?_
     ·simp only [List.take_succ_cons,List.take_zero]
      refine opsV_sp (fun hc'=>?_) (fun hc'=>?_)
      ·replace gh1':=(ifF hc').symm.trans gh1'
       refine ops H' ?_
       obtain ⟨x32,hy',gh1'⟩:=zbi gh1'
       refine callGD H' (fun _=>[0]) (W_spec_l01Once _ _ _ hy') ?_
       refine ops H' ?_
       obtain rfl:=zso gh1'
       refine zD ?_
       exact ⟨rfl,shd [0,1,4,5,6,7,8,33] [(0,0),(2,2),(3,3),(4,4),(5,5)] 6 rfl⟩
      ·replace gh1':=(ifT hc').symm.trans gh1'
       refine ops H' ?_
       obtain rfl:=zso gh1'
       refine zD ?_
       exact ⟨rfl,shd [0,1,4,5,6,7,8,33] [(0,0),(2,2),(3,3),(4,4),(5,5)] 6 rfl⟩
     ·rintro e' rfl
      simp only [List.drop_succ_cons,List.drop_zero]
      refine zE ?_
      refine zH (fun hc'=>?_) (fun hc'=>?_)
      ·replace h1':=(ifT hc').symm.trans h1'
       refine zB ?_
       refine ops H' ?_
       obtain ⟨x35,hy',h1'⟩:=zbi h1'
       refine callGD H' (fun _=>[0]) (W_spec_l03Lines _ _ _ hy') ?_
       refine ops H' ?_
       refine zE ?_
       exact shd [0,1,4,5,6,7,8] [(0,0),(2,2),(3,3),(4,4),(6,5)] 6 ⟨_,_,_,_,h1',rfl⟩
      ·replace h1':=(ifF hc').symm.trans h1'
       refine zR ?_
       exact shd [0,1,4,5,6,7,8] [(0,0),(2,2),(3,3),(4,4),(5,5)] 6 ⟨_,_,_,_,h1',rfl⟩
    ·rintro e' ⟨c_7,c_8,c_9,lines,h1',rfl⟩
     unfold spec_l06Right_j2 at h1'
     refine zU (fun e'=>∃ lines_1,spec_l06Right_j3 v w_2 w_3 x20 c_7 c_8 c_9 lines_1=some y1'∧e'=⟨53,2,6,[(0,.pl (.one (.ref 0 []))),(1,.pl (.one (.v (.sc (.int .i64 n))))),(4,.pl (.one (.ref 2 []))),(5,.pl (.one (.ref 3 []))),(6,.pl (.one (.v (.sc (.int .i64 v))))),(7,.pl (.one (.ref 4 []))),(8,.pl (.one (.ref 5 [])))],[(0,.box true [.list false 1 (List.map (rK .u8) c_7),.sc (.int .i64 c_8),.sc (.int .i64 c_9)]),(2,.box true [.list true 1 (List.map (rL true 1 (rK .i64)) []),.list true 4 (List.map (zA true) [])]),(3,.box true [.list true 1 (List.map (rL true 1 (rK .i64)) w_2),.list true 4 (List.map (zA true) w_3)]),(4,.list true 1 (List.map (rK .i64) x20.1)),(5,.list true 1 (List.map rS lines_1))]⟩) ?_ ?_
     ·refine zC ?_
      refine zB ?_
      refine ops H' ?_
      refine zE ?_
      refine zH (fun hc'=>?_) (fun hc'=>?_)
      ·replace h1':=(ifT hc').symm.trans h1'
       refine zB ?_
       refine ops H' ?_
       obtain ⟨x40,hv',h1'⟩:=zbi h1'
       have H':=And.intro (cutH_f hv') H'
       refine opsV_cutO H' ?_
       refine ops H' ?_
       refine zE ?_
       exact shd [0,1,4,5,6,7,8] [(0,0),(2,2),(3,3),(4,4),(6,5)] 6 ⟨_,h1',rfl⟩
      ·replace h1':=(ifF hc').symm.trans h1'
       refine zR ?_
       exact shd [0,1,4,5,6,7,8] [(0,0),(2,2),(3,3),(4,4),(5,5)] 6 ⟨_,h1',rfl⟩
     ·rintro e' ⟨lines_1,h1',rfl⟩
      unfold spec_l06Right_j3 at h1'
      refine zC ?_
      refine zB ?_
      refine ops H' ?_
      obtain ⟨x45,hy',h1'⟩:=zbi h1'
      refine zO H' (fun _=>[]) (W_spec_l06Add _ _ _ _ hy') ?_
      refine ops H' ?_
      refine zE ?_
      refine zC ?_
      refine zB ?_
      refine ops H' ?_
      refine zE ?_
      refine zH (fun hc'=>?_) (fun hc'=>?_)
      ·replace h1':=(ifT hc').symm.trans h1'
       refine zB ?_
       refine ops H' ?_
       refine zE ?_
       refine zB ?_
       refine ops H' ?_
       refine zE ?_
       obtain rfl:=zso h1'
       exact shd [0,1,4,5,6] [(0,0),(2,2),(3,3)] 4 ⟨_,rfl,_,_,_,_,_,_,rfl,rfl⟩
      ·replace h1':=(ifF hc').symm.trans h1'
       refine zR ?_
       refine zB ?_
       refine ops H' ?_
       refine zE ?_
       obtain rfl:=zso h1'
       exact shd [0,1,4,5,6] [(0,0),(2,2),(3,3)] 4 ⟨_,rfl,_,_,_,_,_,_,rfl,rfl⟩
  ·replace h1':=(ifF hc').symm.trans h1'
   refine exitN ?_
   obtain rfl:=zso h1'
   refine ⟨_,rfl,fun hr'=>?_⟩
   subst hr'
   exact shd [4,5] [(0,0),(2,2),(3,3)] 4 ⟨_,_,_,_,_,h0',rfl⟩
 ·rintro e' ⟨c_1,c_2,c_3,w,w_1,h0',rfl⟩
  unfold spec_l06Right_j1 at h0'
  refine zC ?_
  refine zB ?_
  refine ops H' ?_
  refine zE ?_
  refine retN ?_
  obtain rfl:=zso h0'
  exact outC H' rfl rfl
theorem W_spec_DrawPair (code:List Int) (r':T_impl_Weave×Int×Int) (h0':spec_DrawPair code=some r'):Fn X 23 [.one (.list false 1 (List.map (rK .u8) code))] [.agg [.list true 1 (List.map (rL true 1 (rK .i64)) r'.1.Parents),.list true 4 (List.map (zA true) r'.1.Bodies)],.one (.sc (.int .i64 r'.2.1)),.one (.sc (.int .i64 r'.2.2))] []:=by
 have H':=And.intro t3 (And.intro t38 (And.intro t41 (And.intro R_Li64 (And.intro qD (And.intro R_i64 (R_u8))))))
 unfold spec_DrawPair at h0'
 refine Fn.start (fn:=f23) (N:=29) (res:=[.cell 2 41,.tmp 3,.tmp 4]) rfl rfl rfl rfl rfl (by simp) ?_
 refine zW H' ?_
 refine zC ?_
 refine zB ?_
 refine ops H' ?_
 refine zE ?_
 refine zC ?_
 refine zB ?_
 refine ops H' ?_
 obtain ⟨x9,hy',h0'⟩:=zbi h0'
 refine callGD H' (fun _=>[]) (W_spec_l01New _ _ hy') ?_
 refine ops H' ?_
 refine zE ?_
 refine zC ?_
 refine zB ?_
 refine ops H' ?_
 obtain ⟨x13,hy',h0'⟩:=zbi h0'
 refine zO H' (fun _=>[]) (W_spec_l06Size _ _ hy') ?_
 obtain ⟨x14,hy',h0'⟩:=zbi h0'
 refine callGD H' (fun _=>[0]) (W_spec_l01Below _ _ _ hy') ?_
 refine ops H' ?_
 obtain ⟨x16,hy',h0'⟩:=zbi h0'
 refine callGD H' (fun _=>[0]) (W_spec_l06Right _ _ _ hy') ?_
 refine ops H' ?_
 refine zE ?_
 refine zC ?_
 refine zB ?_
 refine ops H' ?_
 obtain ⟨x21,hy',h0'⟩:=zbi h0'
 refine callGD H' (fun _=>[0]) (W_spec_l01Below _ _ _ hy') ?_
 refine ops H' ?_
 refine zE ?_
 refine zC ?_
 obtain ⟨x28,hy_x28,h0'⟩:=zbi h0'
 refine wpV_J (fun e'=>e'=⟨29,1,2,[(2,.pl (.one (.ref 1 []))),(3,.pl (.one (.v (.sc (.int .i64 x21.1))))),(4,.pl (.one (.v (.sc (.int .i64 x28.1)))))],[(1,.box true [.list true 1 (List.map (rL true 1 (rK .i64)) x16.1.Parents),.list true 4 (List.map (zA true) x16.1.Bodies)])]⟩) ?_ ?_
 ·refine regAnyF [(5,27,.pl (.one (.v (.sc (.int .i64 (x16.1.Parents.length:Int))))))] ?_
  refine (?_:zK X ?o1 _ _ ?P1 _)
  have d9':zK X ?o1 [0,1,2,3,4,5,6,7,8,9] [] ?P1 ⟨29,1,2,[(2,.pl (.one (.ref 1 []))),(3,.pl (.one (.v (.sc (.int .i64 x21.1))))),(4,.pl (.one (.v (.sc (.int .i64 x28.1)))))],[(1,.box true [.list true 1 (List.map (rL true 1 (rK .i64)) x16.1.Parents),.list true 4 (List.map (zA true) x16.1.Bodies)])]⟩:=by
   refine fend (e2:=⟨29,1,2,[(2,.pl (.one (.ref 1 []))),(3,.pl (.one (.v (.sc (.int .i64 x21.1))))),(4,.pl (.one (.v (.sc (.int .i64 x28.1)))))],[(1,.box true [.list true 1 (List.map (rL true 1 (rK .i64)) x16.1.Parents),.list true 4 (List.map (zA true) x16.1.Bodies)])]⟩) [] [] [] [] trivial ⟨rfl,shd [2,3,4] [(1,1)] 2 rfl⟩
  have d10':zK X ?o1 [0,1,2,3,4,5,6,7,8] [] ?P1 ⟨29,1,2,[(2,.pl (.one (.ref 1 []))),(3,.pl (.one (.v (.sc (.int .i64 x21.1))))),(28,.pl (.one (.v (.sc (.int .i64 x28.1)))))],[(1,.box true [.list true 1 (List.map (rL true 1 (rK .i64)) x16.1.Parents),.list true 4 (List.map (zA true) x16.1.Bodies)])]⟩:=by
   refine zL [] [.m 9 [] [0,1,2,3,4,5,6,7,8,9] []] [] [(9,false,[],[0,1,2,3,4,5,6,7,8,9])] ⟨?_,trivial⟩
   ·refine zM ⟨29,1,2,[(2,.pl (.one (.ref 1 []))),(3,.pl (.one (.v (.sc (.int .i64 x21.1))))),(28,.pl (.one (.v (.sc (.int .i64 x28.1)))))],[(1,.box true [.list true 1 (List.map (rL true 1 (rK .i64)) x16.1.Parents),.list true 4 (List.map (zA true) x16.1.Bodies)])]⟩ ?_
    refine ops H' ?_
    refine zD ⟨rfl,.inl ⟨rfl,?_⟩⟩
    exact zF [2,3,4] [(1,1)] 2 d9'
  have d11':zK X ?o1 [0,1,2,3,4,5,6,7] [] ?P1 ⟨29,1,2,[(2,.pl (.one (.ref 1 []))),(23,.pl (.one (.v (.sc (.int .i64 x21.1))))),(28,.pl (.one (.v (.sc (.int .i64 x28.1)))))],[(1,.box true [.list true 1 (List.map (rL true 1 (rK .i64)) x16.1.Parents),.list true 4 (List.map (zA true) x16.1.Bodies)])]⟩:=by
   refine zL [] [.m 8 [] [0,1,2,3,4,5,6,7,8] []] [] [(8,false,[],[0,1,2,3,4,5,6,7,8])] ⟨?_,trivial⟩
   ·refine zM ⟨29,1,2,[(2,.pl (.one (.ref 1 []))),(23,.pl (.one (.v (.sc (.int .i64 x21.1))))),(28,.pl (.one (.v (.sc (.int .i64 x28.1)))))],[(1,.box true [.list true 1 (List.map (rL true 1 (rK .i64)) x16.1.Parents),.list true 4 (List.map (zA true) x16.1.Bodies)])]⟩ ?_
    refine ops H' ?_
    refine zD ⟨rfl,.inl ⟨rfl,?_⟩⟩
    exact zF [2,3,28] [(1,1)] 2 d10'
  have d12':zK X ?o1 [0,1,2,3,4,5,6] [] ?P1 ⟨29,1,3,[(2,.pl (.one (.ref 1 []))),(22,.pl (.agg [.ref 2 [(0,0,0)],.ref 2 [(0,0,1)]])),(23,.pl (.one (.v (.sc (.int .i64 x21.1))))),(28,.pl (.one (.v (.sc (.int .i64 x28.1)))))],[(1,.box true [.list true 1 (List.map (rL true 1 (rK .i64)) []),.list true 4 (List.map (zA true) [])]),(2,.box true [.list true 1 (List.map (rL true 1 (rK .i64)) x16.1.Parents),.list true 4 (List.map (zA true) x16.1.Bodies)])]⟩:=by
   refine zL [] [.m 7 [] [0,1,2,3,4,5,6,7] []] [] [(7,false,[],[0,1,2,3,4,5,6,7])] ⟨?_,trivial⟩
   ·refine zM ⟨29,1,3,[(2,.pl (.one (.ref 1 []))),(22,.pl (.agg [.ref 2 [(0,0,0)],.ref 2 [(0,0,1)]])),(23,.pl (.one (.v (.sc (.int .i64 x21.1))))),(28,.pl (.one (.v (.sc (.int .i64 x28.1)))))],[(1,.box true [.list true 1 (List.map (rL true 1 (rK .i64)) []),.list true 4 (List.map (zA true) [])]),(2,.box true [.list true 1 (List.map (rL true 1 (rK .i64)) x16.1.Parents),.list true 4 (List.map (zA true) x16.1.Bodies)])]⟩ ?_
    refine ops H' ?_
    refine zD ⟨rfl,.inl ⟨rfl,?_⟩⟩
    exact zF [2,23,28] [(1,1)] 2 d11'
  have d13':zK X ?o1 [0,1,2,3,4] [(5,27,.pl (.one (.v (.sc (.int .i64 (x16.1.Parents.length:Int))))))] ?P1 ⟨29,1,4,[(2,.pl (.one (.ref 1 []))),(22,.pl (.agg [.ref 2 [(0,0,0)],.ref 2 [(0,0,1)]])),(23,.pl (.one (.v (.sc (.int .i64 x21.1))))),(24,.pl (.one (.ref 3 []))),(26,.pl (.one (.ref 2 [(0,0,0)])))],[(1,.box true [.list true 1 (List.map (rL true 1 (rK .i64)) []),.list true 4 (List.map (zA true) [])]),(2,.box true [.list true 1 (List.map (rL true 1 (rK .i64)) x16.1.Parents),.list true 4 (List.map (zA true) x16.1.Bodies)]),(3,.box true [.list false 1 (List.map (rK .u8) x21.2.b),.sc (.int .i64 x21.2.i),.sc (.int .i64 x21.2.h)])]⟩:=by
   refine zL [5] [.q 5 27 (.pl (.one (.v (.sc (.int .i64 (x16.1.Parents.length:Int)))))) [],.m 6 [5] [0,1,2,3,4,5,6] []] [(5,27)] [(5,true,[],[]),(6,false,[5],[0,1,2,3,4,5,6])] ⟨?_,?_,trivial⟩
   ·refine zG 0 ⟨29,1,4,[(2,.pl (.one (.ref 1 []))),(22,.pl (.agg [.ref 2 [(0,0,0)],.ref 2 [(0,0,1)]])),(23,.pl (.one (.v (.sc (.int .i64 x21.1))))),(24,.pl (.one (.ref 3 []))),(26,.pl (.one (.ref 2 [(0,0,0)])))],[(1,.box true [.list true 1 (List.map (rL true 1 (rK .i64)) []),.list true 4 (List.map (zA true) [])]),(2,.box true [.list true 1 (List.map (rL true 1 (rK .i64)) x16.1.Parents),.list true 4 (List.map (zA true) x16.1.Bodies)]),(3,.box true [.list false 1 (List.map (rK .u8) x21.2.b),.sc (.int .i64 x21.2.i),.sc (.int .i64 x21.2.h)])]⟩ ?_
    refine ops H' ?_
    refine zD ⟨rfl,shd [27,2,22,23,24,26] [(1,1),(2,2),(3,3)] 4 rfl⟩
   ·refine zM ⟨29,1,4,[(27,.pl (.one (.v (.sc (.int .i64 (x16.1.Parents.length:Int)))))),(2,.pl (.one (.ref 1 []))),(22,.pl (.agg [.ref 2 [(0,0,0)],.ref 2 [(0,0,1)]])),(23,.pl (.one (.v (.sc (.int .i64 x21.1))))),(24,.pl (.one (.ref 3 []))),(26,.pl (.one (.ref 2 [(0,0,0)])))],[(1,.box true [.list true 1 (List.map (rL true 1 (rK .i64)) []),.list true 4 (List.map (zA true) [])]),(2,.box true [.list true 1 (List.map (rL true 1 (rK .i64)) x16.1.Parents),.list true 4 (List.map (zA true) x16.1.Bodies)]),(3,.box true [.list false 1 (List.map (rK .u8) x21.2.b),.sc (.int .i64 x21.2.i),.sc (.int .i64 x21.2.h)])]⟩ ?_
    refine callGD H' (fun _=>[0]) (W_spec_l01Below _ _ _ hy_x28) ?_
    refine zD ⟨rfl,.inl ⟨rfl,?_⟩⟩
    exact zF [2,22,23,28] [(1,1),(2,2)] 3 d12'
  have d14':zK X ?o1 [0,1,2,3] [(5,27,.pl (.one (.v (.sc (.int .i64 (x16.1.Parents.length:Int))))))] ?P1 ⟨29,1,4,[(2,.pl (.one (.ref 1 []))),(22,.pl (.agg [.ref 2 [(0,0,0)],.ref 2 [(0,0,1)]])),(23,.pl (.one (.v (.sc (.int .i64 x21.1))))),(24,.pl (.one (.ref 3 []))),(25,.pl (.one (.addr 2 [] 0 0 0)))],[(1,.box true [.list true 1 (List.map (rL true 1 (rK .i64)) []),.list true 4 (List.map (zA true) [])]),(2,.box true [.list true 1 (List.map (rL true 1 (rK .i64)) x16.1.Parents),.list true 4 (List.map (zA true) x16.1.Bodies)]),(3,.box true [.list false 1 (List.map (rK .u8) x21.2.b),.sc (.int .i64 x21.2.i),.sc (.int .i64 x21.2.h)])]⟩:=by
   refine zL [] [.m 4 [] [0,1,2,3,4] [(5,27,.pl (.one (.v (.sc (.int .i64 (x16.1.Parents.length:Int))))))]] [(5,27)] [(4,false,[],[0,1,2,3,4])] ⟨?_,trivial⟩
   ·refine zM ⟨29,1,4,[(2,.pl (.one (.ref 1 []))),(22,.pl (.agg [.ref 2 [(0,0,0)],.ref 2 [(0,0,1)]])),(23,.pl (.one (.v (.sc (.int .i64 x21.1))))),(24,.pl (.one (.ref 3 []))),(25,.pl (.one (.addr 2 [] 0 0 0)))],[(1,.box true [.list true 1 (List.map (rL true 1 (rK .i64)) []),.list true 4 (List.map (zA true) [])]),(2,.box true [.list true 1 (List.map (rL true 1 (rK .i64)) x16.1.Parents),.list true 4 (List.map (zA true) x16.1.Bodies)]),(3,.box true [.list false 1 (List.map (rK .u8) x21.2.b),.sc (.int .i64 x21.2.i),.sc (.int .i64 x21.2.h)])]⟩ ?_
    refine ops H' ?_
    refine zD ⟨rfl,.inl ⟨rfl,?_⟩⟩
    exact zF [2,22,23,24,26] [(1,1),(2,2),(3,3)] 4 d13'
  have d15':zK X ?o1 [1,2,3,4,5,6] [] ?P1 ⟨29,1,3,[(2,.pl (.one (.ref 1 []))),(6,.pl (.one (.ref 2 []))),(23,.pl (.one (.v (.sc (.int .i64 x21.1))))),(28,.pl (.one (.v (.sc (.int .i64 x28.1)))))],[(1,.box true [.list true 1 (List.map (rL true 1 (rK .i64)) []),.list true 4 (List.map (zA true) [])]),(2,.box true [.list true 1 (List.map (rL true 1 (rK .i64)) x16.1.Parents),.list true 4 (List.map (zA true) x16.1.Bodies)])]⟩:=by
   refine zL [] [.m 0 [] [0,1,2,3,4,5,6] []] [] [(0,false,[],[0,1,2,3,4,5,6])] ⟨?_,trivial⟩
   ·refine zM ⟨29,1,3,[(2,.pl (.one (.ref 1 []))),(6,.pl (.one (.ref 2 []))),(23,.pl (.one (.v (.sc (.int .i64 x21.1))))),(28,.pl (.one (.v (.sc (.int .i64 x28.1)))))],[(1,.box true [.list true 1 (List.map (rL true 1 (rK .i64)) []),.list true 4 (List.map (zA true) [])]),(2,.box true [.list true 1 (List.map (rL true 1 (rK .i64)) x16.1.Parents),.list true 4 (List.map (zA true) x16.1.Bodies)])]⟩ ?_
    refine ops H' ?_
    refine zD ⟨rfl,.inl ⟨rfl,?_⟩⟩
    exact zF [2,22,23,28] [(1,1),(2,2)] 3 d12'
  have d16':zK X ?o1 [1,2,3,4] [(5,27,.pl (.one (.v (.sc (.int .i64 (x16.1.Parents.length:Int))))))] ?P1 ⟨29,1,4,[(2,.pl (.one (.ref 1 []))),(6,.pl (.one (.ref 2 []))),(23,.pl (.one (.v (.sc (.int .i64 x21.1))))),(24,.pl (.one (.ref 3 []))),(26,.pl (.one (.ref 2 [(0,0,0)])))],[(1,.box true [.list true 1 (List.map (rL true 1 (rK .i64)) []),.list true 4 (List.map (zA true) [])]),(2,.box true [.list true 1 (List.map (rL true 1 (rK .i64)) x16.1.Parents),.list true 4 (List.map (zA true) x16.1.Bodies)]),(3,.box true [.list false 1 (List.map (rK .u8) x21.2.b),.sc (.int .i64 x21.2.i),.sc (.int .i64 x21.2.h)])]⟩:=by
   refine zL [5] [.q 5 27 (.pl (.one (.v (.sc (.int .i64 (x16.1.Parents.length:Int)))))) [],.m 0 [] [0,1,2,3,4] [(5,27,.pl (.one (.v (.sc (.int .i64 (x16.1.Parents.length:Int))))))],.m 6 [5] [1,2,3,4,5,6] []] [(5,27)] [(5,true,[],[]),(0,false,[],[0,1,2,3,4]),(6,false,[5],[1,2,3,4,5,6])] ⟨?_,?_,?_,trivial⟩
   ·refine zG 0 ⟨29,1,4,[(2,.pl (.one (.ref 1 []))),(6,.pl (.one (.ref 2 []))),(23,.pl (.one (.v (.sc (.int .i64 x21.1))))),(24,.pl (.one (.ref 3 []))),(26,.pl (.one (.ref 2 [(0,0,0)])))],[(1,.box true [.list true 1 (List.map (rL true 1 (rK .i64)) []),.list true 4 (List.map (zA true) [])]),(2,.box true [.list true 1 (List.map (rL true 1 (rK .i64)) x16.1.Parents),.list true 4 (List.map (zA true) x16.1.Bodies)]),(3,.box true [.list false 1 (List.map (rK .u8) x21.2.b),.sc (.int .i64 x21.2.i),.sc (.int .i64 x21.2.h)])]⟩ ?_
    refine ops H' ?_
    refine zD ⟨rfl,shd [27,2,6,23,24,26] [(1,1),(2,2),(3,3)] 4 rfl⟩
   ·refine zM ⟨29,1,4,[(2,.pl (.one (.ref 1 []))),(6,.pl (.one (.ref 2 []))),(23,.pl (.one (.v (.sc (.int .i64 x21.1))))),(24,.pl (.one (.ref 3 []))),(26,.pl (.one (.ref 2 [(0,0,0)])))],[(1,.box true [.list true 1 (List.map (rL true 1 (rK .i64)) []),.list true 4 (List.map (zA true) [])]),(2,.box true [.list true 1 (List.map (rL true 1 (rK .i64)) x16.1.Parents),.list true 4 (List.map (zA true) x16.1.Bodies)]),(3,.box true [.list false 1 (List.map (rK .u8) x21.2.b),.sc (.int .i64 x21.2.i),.sc (.int .i64 x21.2.h)])]⟩ ?_
    refine ops H' ?_
    refine zD ⟨rfl,.inl ⟨rfl,?_⟩⟩
    exact zF [2,22,23,24,26] [(1,1),(2,2),(3,3)] 4 d13'
   ·refine zM ⟨29,1,4,[(27,.pl (.one (.v (.sc (.int .i64 (x16.1.Parents.length:Int)))))),(2,.pl (.one (.ref 1 []))),(6,.pl (.one (.ref 2 []))),(23,.pl (.one (.v (.sc (.int .i64 x21.1))))),(24,.pl (.one (.ref 3 []))),(26,.pl (.one (.ref 2 [(0,0,0)])))],[(1,.box true [.list true 1 (List.map (rL true 1 (rK .i64)) []),.list true 4 (List.map (zA true) [])]),(2,.box true [.list true 1 (List.map (rL true 1 (rK .i64)) x16.1.Parents),.list true 4 (List.map (zA true) x16.1.Bodies)]),(3,.box true [.list false 1 (List.map (rK .u8) x21.2.b),.sc (.int .i64 x21.2.i),.sc (.int .i64 x21.2.h)])]⟩ ?_
    refine callGD H' (fun _=>[0]) (W_spec_l01Below _ _ _ hy_x28) ?_
    refine zD ⟨rfl,.inl ⟨rfl,?_⟩⟩
    exact zF [2,6,23,28] [(1,1),(2,2)] 3 d15'
  have d17':zK X ?o1 [1,2,3] [(5,27,.pl (.one (.v (.sc (.int .i64 (x16.1.Parents.length:Int))))))] ?P1 ⟨29,1,4,[(2,.pl (.one (.ref 1 []))),(6,.pl (.one (.ref 2 []))),(23,.pl (.one (.v (.sc (.int .i64 x21.1))))),(24,.pl (.one (.ref 3 []))),(25,.pl (.one (.addr 2 [] 0 0 0)))],[(1,.box true [.list true 1 (List.map (rL true 1 (rK .i64)) []),.list true 4 (List.map (zA true) [])]),(2,.box true [.list true 1 (List.map (rL true 1 (rK .i64)) x16.1.Parents),.list true 4 (List.map (zA true) x16.1.Bodies)]),(3,.box true [.list false 1 (List.map (rK .u8) x21.2.b),.sc (.int .i64 x21.2.i),.sc (.int .i64 x21.2.h)])]⟩:=by
   refine zL [] [.m 0 [] [0,1,2,3] [(5,27,.pl (.one (.v (.sc (.int .i64 (x16.1.Parents.length:Int))))))],.m 4 [] [1,2,3,4] [(5,27,.pl (.one (.v (.sc (.int .i64 (x16.1.Parents.length:Int))))))]] [(5,27)] [(0,false,[],[0,1,2,3]),(4,false,[],[1,2,3,4])] ⟨?_,?_,trivial⟩
   ·refine zM ⟨29,1,4,[(2,.pl (.one (.ref 1 []))),(6,.pl (.one (.ref 2 []))),(23,.pl (.one (.v (.sc (.int .i64 x21.1))))),(24,.pl (.one (.ref 3 []))),(25,.pl (.one (.addr 2 [] 0 0 0)))],[(1,.box true [.list true 1 (List.map (rL true 1 (rK .i64)) []),.list true 4 (List.map (zA true) [])]),(2,.box true [.list true 1 (List.map (rL true 1 (rK .i64)) x16.1.Parents),.list true 4 (List.map (zA true) x16.1.Bodies)]),(3,.box true [.list false 1 (List.map (rK .u8) x21.2.b),.sc (.int .i64 x21.2.i),.sc (.int .i64 x21.2.h)])]⟩ ?_
    refine ops H' ?_
    refine zD ⟨rfl,.inl ⟨rfl,?_⟩⟩
    exact zF [2,22,23,24,25] [(1,1),(2,2),(3,3)] 4 d14'
   ·refine zM ⟨29,1,4,[(2,.pl (.one (.ref 1 []))),(6,.pl (.one (.ref 2 []))),(23,.pl (.one (.v (.sc (.int .i64 x21.1))))),(24,.pl (.one (.ref 3 []))),(25,.pl (.one (.addr 2 [] 0 0 0)))],[(1,.box true [.list true 1 (List.map (rL true 1 (rK .i64)) []),.list true 4 (List.map (zA true) [])]),(2,.box true [.list true 1 (List.map (rL true 1 (rK .i64)) x16.1.Parents),.list true 4 (List.map (zA true) x16.1.Bodies)]),(3,.box true [.list false 1 (List.map (rK .u8) x21.2.b),.sc (.int .i64 x21.2.i),.sc (.int .i64 x21.2.h)])]⟩ ?_
    refine ops H' ?_
    refine zD ⟨rfl,.inl ⟨rfl,?_⟩⟩
    exact zF [2,6,23,24,26] [(1,1),(2,2),(3,3)] 4 d16'
  refine fpure H' 1 [1] [(5,27)] ?_
  refine fpure H' 2 [1,2] [(5,27)] ?_
  refine fpure H' 3 [1,2,3] [(5,27)] ?_
  exact zF [2,6,23,24,25] [(1,1),(7,2),(2,3)] 4 d17'
 ·rintro e' rfl
  refine contN ?_
  refine retN ?_
  obtain rfl:=zso h0'
  exact outC H' rfl rfl
theorem W_impl_BornIn_c1 (b:T_impl_Body) (c:Int) (r':Bool) (h0':impl_BornIn_c1 b c=some r'):Fn X 88 [.agg [.sc (.string b.Line),.sc (.int .i64 b.Ins),.sc (.int .i64 b.Ord),.list false 1 (List.map (rK .i64) b.Dels)],.one (.box false [.sc (.int .i64 c)])] [.one (.sc (.bool r'))] []:=by
 have H':=And.intro t3 (And.intro t50 (R_i64))
 unfold impl_BornIn_c1 at h0'
 refine Fn.start (fn:=f88) (N:=8) (res:=[.tmp 3]) rfl rfl rfl rfl rfl (by simp) ?_
 refine zW H' ?_
 refine zC ?_
 refine zB ?_
 refine ops H' ?_
 refine zE ?_
 refine zC ?_
 refine zB ?_
 refine ops H' ?_
 refine zE ?_
 refine retN ?_
 obtain rfl:=zso h0'
 exact outG H' rfl rfl
theorem W_impl_inRange (n:Int) (least:Int) (most:Int) (r':Bool) (h0':impl_inRange n least most=some r'):Fn X 155 [.one (.sc (.int .i64 n)),.one (.sc (.int .i64 least)),.one (.sc (.int .i64 most))] [.one (.sc (.bool r'))] []:=by
 have H':=t3
 unfold impl_inRange at h0'
 refine Fn.start (fn:=f155) (N:=15) (res:=[.tmp 6]) rfl rfl rfl rfl rfl (by simp) ?_
 refine zW H' ?_
 refine zC ?_
 refine zB ?_
 refine ops H' ?_
 refine zE ?_
 refine zC ?_
 refine zB ?_
 refine ops H' ?_
 obtain ⟨b,gh0',h0'⟩:=zbi h0'
 refine qG 4 (fun e'=>e'=⟨15,3,3,[(14,.pl (.one (.v (.sc (.bool b)))))],[]⟩) ?_ ?_
 ·simp only [List.take_succ_cons,List.take_zero]
  refine opsV_sp (fun hc'=>?_) (fun hc'=>?_)
  ·replace gh0':=(ifT hc').symm.trans gh0'
   refine ops H' ?_
   obtain rfl:=zso gh0'
   refine zD ?_
   exact ⟨rfl,shd [14] [] 3 rfl⟩
  ·replace gh0':=(ifF hc').symm.trans gh0'
   refine ops H' ?_
   obtain rfl:=zso gh0'
   refine zD ?_
   exact ⟨rfl,shd [14] [] 3 rfl⟩
 ·rintro e' rfl
  simp only [List.drop_succ_cons,List.drop_zero]
  refine ops H' ?_
  refine zE ?_
  refine retN ?_
  obtain rfl:=zso h0'
  exact outG H' rfl rfl
theorem W_impl_ascends (list_:List Int) (below:Int) (r':Bool) (h0':impl_ascends list_ below=some r'):Fn X 107 [.one (.list false 1 (List.map (rK .i64) list_)),.one (.sc (.int .i64 below))] [.one (.sc (.bool r'))] []:=by
 have H':=And.intro t3 (And.intro t44 (R_i64))
 unfold impl_ascends at h0'
 refine Fn.start (fn:=f107) (N:=33) (res:=[.tmp 4]) rfl rfl rfl rfl rfl (by simp) ?_
 refine zW H' ?_
 refine zC ?_
 refine zB ?_
 refine ops H' ?_
 refine zE ?_
 refine zU (fun e'=>impl_ascends_j1=some r'∧e'=⟨33,2,2,[],[]⟩) ?_ ?_
 ·refine zC ?_
  refine zB ?_
  refine ops H' ?_
  refine zE ?_
  obtain ⟨p,hl',h0'⟩:=zbi h0'
  refine zJ ?_
  refine zX (fun x9 e'=>e'=⟨33,2,2,[(0,.pl (.one (.v (.list false 1 (List.map (rK .i64) list_))))),(1,.pl (.one (.v (.sc (.int .i64 below))))),(7,.pl (.one (.v (.list false 1 (List.map (rK .i64) list_))))),(8,.pl (.one (.v (.sc (.int .i64 (list_.length:Int)))))),(9,.pl (.one (.v (.sc (.int .i64 x9)))))],[]⟩) hl' (shd [0,1,7,8,9] [] 2 rfl) ?_
  rintro x9 y1' e' h1' rfl
  replace h1':qQ list_ below x9=some y1':=h1'
  unfold qQ at h1'
  refine zC ?_
  refine zB ?_
  refine ops H' ?_
  refine zE ?_
  refine zC ?_
  refine zH (fun hc'=>?_) (fun hc'=>?_)
  ·replace h1':=(ifT hc').symm.trans h1'
   refine zR ?_
   refine zC ?_
   refine zJ ?_
   refine zC ?_
   refine zB ?_
   obtain ⟨x,hv',h1'⟩:=zbi h1'
   have H':=And.intro (zP hv') H'
   refine ops H' ?_
   refine zE ?_
   refine zC ?_
   refine zB ?_
   refine ops H' ?_
   obtain ⟨x17,hy',h1'⟩:=zbi h1'
   refine zO H' (fun _=>[]) (W_impl_inRange _ _ _ _ hy') ?_
   refine ops H' ?_
   obtain ⟨b,gh1',h1'⟩:=zbi h1'
   refine qG 12 (fun e'=>e'=⟨33,2,2,[(0,.pl (.one (.v (.list false 1 (List.map (rK .i64) list_))))),(1,.pl (.one (.v (.sc (.int .i64 below))))),(7,.pl (.one (.v (.list false 1 (List.map (rK .i64) list_))))),(8,.pl (.one (.v (.sc (.int .i64 (list_.length:Int)))))),(9,.pl (.one (.v (.sc (.int .i64 x9))))),(31,.pl (.one (.v (.sc (.bool b)))))],[]⟩) ?_ ?_
   ·simp only [List.take_succ_cons,List.take_zero]
    refine opsV_sp (fun hc'=>?_) (fun hc'=>?_)
    ·replace gh1':=(ifF hc').symm.trans gh1'
     refine ops H' ?_
     obtain ⟨b_1,ggh1',gh1'⟩:=zbi gh1'
     refine qG 8 (fun e'=>e'=⟨33,2,2,[(0,.pl (.one (.v (.list false 1 (List.map (rK .i64) list_))))),(1,.pl (.one (.v (.sc (.int .i64 below))))),(7,.pl (.one (.v (.list false 1 (List.map (rK .i64) list_))))),(8,.pl (.one (.v (.sc (.int .i64 (list_.length:Int)))))),(9,.pl (.one (.v (.sc (.int .i64 x9))))),(19,.pl (.one (.v (.sc (.bool false))))),(20,.pl (.one (.v (.sc (.int .i64 x9))))),(21,.pl (.one (.v (.sc (.bool (decide (x9 > 0))))))),(30,.pl (.one (.v (.sc (.bool b_1)))))],[]⟩) ?_ ?_
     ·simp only [List.take_succ_cons,List.take_zero]
      refine opsV_sp (fun hc'=>?_) (fun hc'=>?_)
      ·replace ggh1':=(ifT hc').symm.trans ggh1'
       obtain ⟨x_1,hv',ggh1'⟩:=zbi ggh1'
       have H':=And.intro (zP hv') H'
       refine ops H' ?_
       obtain rfl:=zso ggh1'
       refine zD ?_
       exact ⟨rfl,shd [0,1,7,8,9,19,20,21,30] [] 2 rfl⟩
      ·replace ggh1':=(ifF hc').symm.trans ggh1'
       refine ops H' ?_
       obtain rfl:=zso ggh1'
       refine zD ?_
       exact ⟨rfl,shd [0,1,7,8,9,19,20,21,30] [] 2 rfl⟩
     ·rintro e' rfl
      simp only [List.drop_succ_cons,List.drop_zero]
      refine ops H' ?_
      obtain rfl:=zso gh1'
      refine zD ?_
      exact ⟨rfl,shd [0,1,7,8,9,31] [] 2 rfl⟩
    ·replace gh1':=(ifT hc').symm.trans gh1'
     refine ops H' ?_
     obtain rfl:=zso gh1'
     refine zD ?_
     exact ⟨rfl,shd [0,1,7,8,9,31] [] 2 rfl⟩
   ·rintro e' rfl
    simp only [List.drop_succ_cons,List.drop_zero]
    refine zE ?_
    refine zH (fun hc'=>?_) (fun hc'=>?_)
    ·replace h1':=(ifT hc').symm.trans h1'
     refine zC ?_
     refine zB ?_
     refine ops H' ?_
     refine zE ?_
     refine retN ?_
     obtain rfl:=zso h1'
     refine ⟨_,rfl,fun hr'=>?_⟩
     subst hr'
     obtain rfl:=zso h0'
     exact outG H' rfl rfl
    ·replace h1':=(ifF hc').symm.trans h1'
     refine zR ?_
     refine zB ?_
     refine ops H' ?_
     refine zE ?_
     obtain rfl:=zso h1'
     exact shd [0,1,7,8,9] [] 2 ⟨_,rfl,rfl⟩
  ·replace h1':=(ifF hc').symm.trans h1'
   refine exitN ?_
   obtain rfl:=zso h1'
   refine ⟨_,rfl,fun hr'=>?_⟩
   subst hr'
   exact shd [] [] 2 ⟨h0',rfl⟩
 ·rintro e' ⟨h0',rfl⟩
  unfold impl_ascends_j1 at h0'
  refine zC ?_
  refine zB ?_
  refine ops H' ?_
  refine zE ?_
  refine retN ?_
  obtain rfl:=zso h0'
  exact outG H' rfl rfl
theorem W_impl_GraphOk (parents:List (List Int)) (r':Bool) (h0':impl_GraphOk parents=some r'):Fn X 95 [.one (.list false 1 (List.map (rL false 1 (rK .i64)) parents))] [.one (.sc (.bool r'))] []:=by
 have H':=And.intro t3 (And.intro t38 (And.intro t44 (And.intro R_Li64 (R_i64))))
 unfold impl_GraphOk at h0'
 refine Fn.start (fn:=f95) (N:=25) (res:=[.tmp 2]) rfl rfl rfl rfl rfl (by simp) ?_
 refine zW H' ?_
 refine zC ?_
 refine zB ?_
 refine ops H' ?_
 refine zE ?_
 refine zU (fun e'=>impl_GraphOk_j1 parents=some r'∧e'=⟨25,1,1,[(0,.pl (.one (.v (.list false 1 (List.map (rL false 1 (rK .i64)) parents)))))],[]⟩) ?_ ?_
 ·refine zC ?_
  refine zB ?_
  refine ops H' ?_
  refine zE ?_
  obtain ⟨p,hl',h0'⟩:=zbi h0'
  refine zJ ?_
  refine zX (fun x7 e'=>e'=⟨25,1,1,[(0,.pl (.one (.v (.list false 1 (List.map (rL false 1 (rK .i64)) parents))))),(5,.pl (.one (.v (.list false 1 (List.map (rL false 1 (rK .i64)) parents))))),(6,.pl (.one (.v (.sc (.int .i64 (parents.length:Int)))))),(7,.pl (.one (.v (.sc (.int .i64 x7)))))],[]⟩) hl' (shd [0,5,6,7] [] 1 rfl) ?_
  rintro x7 y1' e' h1' rfl
  replace h1':qS parents x7=some y1':=h1'
  unfold qS at h1'
  refine zC ?_
  refine zB ?_
  refine ops H' ?_
  refine zE ?_
  refine zC ?_
  refine zH (fun hc'=>?_) (fun hc'=>?_)
  ·replace h1':=(ifT hc').symm.trans h1'
   refine zR ?_
   refine zC ?_
   refine zJ ?_
   refine zC ?_
   refine zB ?_
   obtain ⟨x,hv',h1'⟩:=zbi h1'
   have H':=And.intro (zP hv') H'
   refine ops H' ?_
   refine zE ?_
   refine zC ?_
   refine zB ?_
   refine ops H' ?_
   obtain ⟨b,gh1',h1'⟩:=zbi h1'
   refine qG 5 (fun e'=>e'=⟨25,1,1,[(0,.pl (.one (.v (.list false 1 (List.map (rL false 1 (rK .i64)) parents))))),(5,.pl (.one (.v (.list false 1 (List.map (rL false 1 (rK .i64)) parents))))),(6,.pl (.one (.v (.sc (.int .i64 (parents.length:Int)))))),(7,.pl (.one (.v (.sc (.int .i64 x7))))),(20,.pl (.one (.v (.sc (.bool b)))))],[]⟩) ?_ ?_
   ·simp only [List.take_succ_cons,List.take_zero]
    refine opsV_sp (fun hc'=>?_) (fun hc'=>?_)
    ·replace gh1':=(ifF hc').symm.trans gh1'
     refine ops H' ?_
     obtain ⟨x18,hy',gh1'⟩:=zbi gh1'
     refine zO H' (fun _=>[]) (W_impl_ascends _ _ _ hy') ?_
     refine ops H' ?_
     obtain rfl:=zso gh1'
     refine zD ?_
     exact ⟨rfl,shd [0,5,6,7,20] [] 1 rfl⟩
    ·replace gh1':=(ifT hc').symm.trans gh1'
     refine ops H' ?_
     obtain rfl:=zso gh1'
     refine zD ?_
     exact ⟨rfl,shd [0,5,6,7,20] [] 1 rfl⟩
   ·rintro e' rfl
    simp only [List.drop_succ_cons,List.drop_zero]
    refine zE ?_
    refine zH (fun hc'=>?_) (fun hc'=>?_)
    ·replace h1':=(ifT hc').symm.trans h1'
     refine zC ?_
     refine zB ?_
     refine ops H' ?_
     refine zE ?_
     refine retN ?_
     obtain rfl:=zso h1'
     refine ⟨_,rfl,fun hr'=>?_⟩
     subst hr'
     obtain rfl:=zso h0'
     exact outG H' rfl rfl
    ·replace h1':=(ifF hc').symm.trans h1'
     refine zR ?_
     refine zB ?_
     refine ops H' ?_
     refine zE ?_
     obtain rfl:=zso h1'
     exact shd [0,5,6,7] [] 1 ⟨_,rfl,rfl⟩
  ·replace h1':=(ifF hc').symm.trans h1'
   refine exitN ?_
   obtain rfl:=zso h1'
   refine ⟨_,rfl,fun hr'=>?_⟩
   subst hr'
   exact shd [0] [] 1 ⟨h0',rfl⟩
 ·rintro e' ⟨h0',rfl⟩
  unfold impl_GraphOk_j1 at h0'
  refine zC ?_
  refine zB ?_
  refine ops H' ?_
  refine zE ?_
  refine retN ?_
  obtain rfl:=zso h0'
  exact outG H' rfl rfl
theorem W_impl_unionOf (closed:List Int) (list_:List Int) (r':Int) (h0':impl_unionOf closed list_=some r'):Fn X 122 [.one (.list false 1 (List.map (rK .u64) closed)),.one (.list false 1 (List.map (rK .i64) list_))] [.one (.sc (.int .u64 r'))] []:=by
 have H':=And.intro t3 (And.intro t44 (And.intro t133 (And.intro t137 (And.intro R_i64 (R_u64)))))
 unfold impl_unionOf at h0'
 refine Fn.start (fn:=f122) (N:=22) (res:=[.tmp 4]) rfl rfl rfl rfl rfl (by simp) ?_
 refine zW H' ?_
 refine zC ?_
 refine zB ?_
 refine ops H' ?_
 refine zE ?_
 refine zC ?_
 refine zB ?_
 refine ops H' ?_
 refine zE ?_
 refine zU (fun e'=>∃ s,impl_unionOf_j1 s=some r'∧e'=⟨22,2,2,[(5,.pl (.one (.v (.sc (.int .u64 s)))))],[]⟩) ?_ ?_
 ·refine zC ?_
  refine zB ?_
  refine ops H' ?_
  refine zE ?_
  obtain ⟨p,hl',h0'⟩:=zbi h0'
  refine zJ ?_
  refine zX (fun s' e'=>∃ s_1 x10,s'=(s_1,x10)∧e'=⟨22,2,2,[(0,.pl (.one (.v (.list false 1 (List.map (rK .u64) closed))))),(5,.pl (.one (.v (.sc (.int .u64 s_1))))),(8,.pl (.one (.v (.list false 1 (List.map (rK .i64) list_))))),(9,.pl (.one (.v (.sc (.int .i64 (list_.length:Int)))))),(10,.pl (.one (.v (.sc (.int .i64 x10)))))],[]⟩) hl' (shd [0,5,8,9,10] [] 2 ⟨_,_,rfl,rfl⟩) ?_
  rintro s' y1' e' h1' ⟨s_1,x10,rfl,rfl⟩
  replace h1':impl_unionOf_l1 closed list_ s_1 x10=some y1':=h1'
  unfold impl_unionOf_l1 at h1'
  refine zC ?_
  refine zB ?_
  refine ops H' ?_
  refine zE ?_
  refine zC ?_
  refine zH (fun hc'=>?_) (fun hc'=>?_)
  ·replace h1':=(ifT hc').symm.trans h1'
   refine zR ?_
   refine zC ?_
   refine zJ ?_
   refine zC ?_
   refine zB ?_
   obtain ⟨x,hv',h1'⟩:=zbi h1'
   have H':=And.intro (zP hv') H'
   refine ops H' ?_
   refine zE ?_
   refine zB ?_
   obtain ⟨x_1,hv',h1'⟩:=zbi h1'
   have H':=And.intro (zP hv') H'
   refine ops H' ?_
   refine zE ?_
   refine zB ?_
   refine ops H' ?_
   refine zE ?_
   obtain rfl:=zso h1'
   exact shd [0,5,8,9,10] [] 2 ⟨_,rfl,_,_,rfl,rfl⟩
  ·replace h1':=(ifF hc').symm.trans h1'
   refine exitN ?_
   obtain rfl:=zso h1'
   refine ⟨_,rfl,fun hr'=>?_⟩
   subst hr'
   exact shd [5] [] 2 ⟨_,h0',rfl⟩
 ·rintro e' ⟨s,h0',rfl⟩
  unfold impl_unionOf_j1 at h0'
  refine zC ?_
  refine zB ?_
  refine ops H' ?_
  refine zE ?_
  refine retN ?_
  obtain rfl:=zso h0'
  exact outG H' rfl rfl
theorem W_impl_closures (parents:List (List Int)) (r':(List Int)) (h0':impl_closures parents=some r'):Fn X 96 [.one (.list false 1 (List.map (rL false 1 (rK .i64)) parents))] [.one (.list true 1 (List.map (rK .u64) r'))] []:=by
 have H':=And.intro t3 (And.intro t38 (And.intro t44 (And.intro t133 (And.intro t137 (And.intro t199 (And.intro R_Li64 (And.intro R_i64 (R_u64))))))))
 unfold impl_closures at h0'
 refine Fn.start (fn:=f96) (N:=28) (res:=[.tmp 2]) rfl rfl rfl rfl rfl (by simp) ?_
 refine zW H' ?_
 refine zC ?_
 refine zB ?_
 refine ops H' ?_
 refine zE ?_
 refine zC ?_
 refine zB ?_
 obtain ⟨x8,hv',h0'⟩:=zbi h0'
 have H':=And.intro (mkl_f hv') H'
 refine ops H' ?_
 refine zE ?_
 refine zU (fun e'=>∃ out_,impl_closures_j1 out_=some r'∧e'=⟨28,1,2,[(3,.pl (.one (.ref 1 [])))],[(1,.list true 1 (List.map (rK .u64) out_))]⟩) ?_ ?_
 ·refine zC ?_
  refine zB ?_
  refine ops H' ?_
  refine zE ?_
  obtain ⟨p,hl',h0'⟩:=zbi h0'
  refine zJ ?_
  refine zX (fun s' e'=>∃ x11 out__1,s'=(x11,out__1)∧e'=⟨28,1,2,[(3,.pl (.one (.ref 1 []))),(9,.pl (.one (.v (.list false 1 (List.map (rL false 1 (rK .i64)) parents))))),(10,.pl (.one (.v (.sc (.int .i64 (parents.length:Int)))))),(11,.pl (.one (.v (.sc (.int .i64 x11)))))],[(1,.list true 1 (List.map (rK .u64) out__1))]⟩) hl' (shd [3,9,10,11] [(2,1)] 2 ⟨_,_,rfl,rfl⟩) ?_
  rintro s' y1' e' h1' ⟨x11,out__1,rfl,rfl⟩
  replace h1':impl_closures_l1 parents x11 out__1=some y1':=h1'
  unfold impl_closures_l1 at h1'
  refine zC ?_
  refine zB ?_
  refine ops H' ?_
  refine zE ?_
  refine zC ?_
  refine zH (fun hc'=>?_) (fun hc'=>?_)
  ·replace h1':=(ifT hc').symm.trans h1'
   refine zR ?_
   refine zC ?_
   refine zJ ?_
   refine zC ?_
   refine zB ?_
   obtain ⟨x,hv',h1'⟩:=zbi h1'
   have H':=And.intro (zP hv') H'
   refine ops H' ?_
   refine zE ?_
   refine zB ?_
   refine ops H' ?_
   obtain ⟨x20,hy',h1'⟩:=zbi h1'
   refine zO H' (fun _=>[]) (W_impl_unionOf _ _ _ hy') ?_
   obtain ⟨u,hv',h1'⟩:=zbi h1'
   have H':=And.intro (chkF hv') H'
   obtain ⟨x_1,hv',h1'⟩:=zbi h1'
   have H':=And.intro (zP hv') H'
   refine ops H' ?_
   refine zE ?_
   refine zB ?_
   refine ops H' ?_
   refine zE ?_
   obtain rfl:=zso h1'
   exact shd [3,9,10,11] [(1,1)] 2 ⟨_,rfl,_,_,rfl,rfl⟩
  ·replace h1':=(ifF hc').symm.trans h1'
   refine exitN ?_
   obtain rfl:=zso h1'
   refine ⟨_,rfl,fun hr'=>?_⟩
   subst hr'
   exact shd [3] [(1,1)] 2 ⟨_,h0',rfl⟩
 ·rintro e' ⟨out_,h0',rfl⟩
  unfold impl_closures_j1 at h0'
  refine zC ?_
  refine zB ?_
  refine ops H' ?_
  refine zE ?_
  refine retN ?_
  obtain rfl:=zso h0'
  exact outG H' rfl rfl
theorem W_strings_Contains (s:ByteArray) (x:ByteArray) (r':Bool) (h0':strings_Contains s x=some r'):Fn X 207 [.one (.sc (.string s)),.one (.sc (.string x))] [.one (.sc (.bool r'))] []:=by
 unfold strings_Contains at h0'
 split at h0'
 case isFalse=>cases h0'
 rename_i hs
 obtain rfl:=zso h0'
 exact Fn_pureB ⟨_,Go.Proofs.Try.func207,rfl,rfl⟩ (fun w hg=>by
  obtain ⟨y,hy,hy2⟩:=hg _ _ (by rfl:X.G (Go.Proofs.Try.lays144_ren.g 1)=some isNum)
  obtain ⟨m,hm⟩:=isNum_cell hy hy2
  exact Go.Proofs.Any.strings_Contains {Go.Proofs.Try.lays144 with} s x m w hs hm)
theorem W_impl_LineOk (line:ByteArray) (r':Bool) (h0':impl_LineOk line=some r'):Fn X 195 [.one (.sc (.string line))] [.one (.sc (.bool r'))] []:=by
 have H':=And.intro t3 (t9)
 unfold impl_LineOk at h0'
 refine Fn.start (fn:=f195) (N:=11) (res:=[.tmp 2]) rfl rfl rfl rfl rfl (by simp) ?_
 refine zW H' ?_
 refine zC ?_
 refine zB ?_
 refine ops H' ?_
 refine zE ?_
 refine zC ?_
 refine zB ?_
 refine ops H' ?_
 obtain ⟨b,gh0',h0'⟩:=zbi h0'
 refine qG 4 (fun e'=>e'=⟨11,1,1,[(10,.pl (.one (.v (.sc (.bool b)))))],[]⟩) ?_ ?_
 ·simp only [List.take_succ_cons,List.take_zero]
  refine opsV_sp (fun hc'=>?_) (fun hc'=>?_)
  ·replace gh0':=(ifT hc').symm.trans gh0'
   refine ops H' ?_
   obtain ⟨x8,hy',gh0'⟩:=zbi gh0'
   refine zO H' (fun _=>[]) (W_strings_Contains _ _ _ hy') ?_
   refine ops H' ?_
   obtain rfl:=zso gh0'
   refine zD ?_
   exact ⟨rfl,shd [10] [] 1 rfl⟩
  ·replace gh0':=(ifF hc').symm.trans gh0'
   refine ops H' ?_
   obtain rfl:=zso gh0'
   refine zD ?_
   exact ⟨rfl,shd [10] [] 1 rfl⟩
 ·rintro e' rfl
  simp only [List.drop_succ_cons,List.drop_zero]
  refine ops H' ?_
  refine zE ?_
  refine retN ?_
  obtain rfl:=zso h0'
  exact outG H' rfl rfl
theorem W_impl_isPlace (n:Int) (size:Int) (r':Bool) (h0':impl_isPlace n size=some r'):Fn X 94 [.one (.sc (.int .i64 n)),.one (.sc (.int .i64 size))] [.one (.sc (.bool r'))] []:=by
 have H':=t3
 unfold impl_isPlace at h0'
 refine Fn.start (fn:=f94) (N:=9) (res:=[.tmp 4]) rfl rfl rfl rfl rfl (by simp) ?_
 refine zW H' ?_
 refine zC ?_
 refine zB ?_
 refine ops H' ?_
 refine zE ?_
 refine zC ?_
 refine zB ?_
 refine ops H' ?_
 obtain ⟨x8,hy',h0'⟩:=zbi h0'
 refine zO H' (fun _=>[]) (W_impl_inRange _ _ _ _ hy') ?_
 refine ops H' ?_
 refine zE ?_
 refine retN ?_
 obtain rfl:=zso h0'
 exact outG H' rfl rfl
theorem W_impl_set_has (s:Int) (v:Int) (r':Bool) (h0':impl_set_has s v=some r'):Fn X 168 [.one (.sc (.int .u64 s)),.one (.sc (.int .i64 v))] [.one (.sc (.bool r'))] []:=by
 have H':=And.intro t3 (And.intro t133 (t199))
 unfold impl_set_has at h0'
 refine Fn.start (fn:=f168) (N:=15) (res:=[.tmp 4]) rfl rfl rfl rfl rfl (by simp) ?_
 refine zW H' ?_
 refine zC ?_
 refine zB ?_
 refine ops H' ?_
 refine zE ?_
 refine zC ?_
 refine zB ?_
 refine ops H' ?_
 obtain ⟨x6,hy',h0'⟩:=zbi h0'
 refine zO H' (fun _=>[]) (W_impl_inRange _ _ _ _ hy') ?_
 refine ops H' ?_
 obtain ⟨b,gh0',h0'⟩:=zbi h0'
 refine qG 7 (fun e'=>e'=⟨15,2,2,[(14,.pl (.one (.v (.sc (.bool b)))))],[]⟩) ?_ ?_
 ·simp only [List.take_succ_cons,List.take_zero]
  refine opsV_sp (fun hc'=>?_) (fun hc'=>?_)
  ·replace gh0':=(ifT hc').symm.trans gh0'
   obtain ⟨u,hv',gh0'⟩:=zbi gh0'
   have H':=And.intro (chkF hv') H'
   refine ops H' ?_
   obtain rfl:=zso gh0'
   refine zD ?_
   exact ⟨rfl,shd [14] [] 2 rfl⟩
  ·replace gh0':=(ifF hc').symm.trans gh0'
   refine ops H' ?_
   obtain rfl:=zso gh0'
   refine zD ?_
   exact ⟨rfl,shd [14] [] 2 rfl⟩
 ·rintro e' rfl
  simp only [List.drop_succ_cons,List.drop_zero]
  refine ops H' ?_
  refine zE ?_
  refine retN ?_
  obtain rfl:=zso h0'
  exact outG H' rfl rfl
theorem W_impl_setOf (list_:List Int) (r':Int) (h0':impl_setOf list_=some r'):Fn X 93 [.one (.list false 1 (List.map (rK .i64) list_))] [.one (.sc (.int .u64 r'))] []:=by
 have H':=And.intro t3 (And.intro t44 (And.intro t133 (And.intro t199 (R_i64))))
 unfold impl_setOf at h0'
 refine Fn.start (fn:=f93) (N:=21) (res:=[.tmp 2]) rfl rfl rfl rfl rfl (by simp) ?_
 refine zW H' ?_
 refine zC ?_
 refine zB ?_
 refine ops H' ?_
 refine zE ?_
 refine zC ?_
 refine zB ?_
 refine ops H' ?_
 refine zE ?_
 refine zU (fun e'=>∃ s,impl_setOf_j1 s=some r'∧e'=⟨21,1,1,[(3,.pl (.one (.v (.sc (.int .u64 s)))))],[]⟩) ?_ ?_
 ·refine zC ?_
  refine zB ?_
  refine ops H' ?_
  refine zE ?_
  obtain ⟨p,hl',h0'⟩:=zbi h0'
  refine zJ ?_
  refine zX (fun s' e'=>∃ s_1 x8,s'=(s_1,x8)∧e'=⟨21,1,1,[(3,.pl (.one (.v (.sc (.int .u64 s_1))))),(6,.pl (.one (.v (.list false 1 (List.map (rK .i64) list_))))),(7,.pl (.one (.v (.sc (.int .i64 (list_.length:Int)))))),(8,.pl (.one (.v (.sc (.int .i64 x8)))))],[]⟩) hl' (shd [3,6,7,8] [] 1 ⟨_,_,rfl,rfl⟩) ?_
  rintro s' y1' e' h1' ⟨s_1,x8,rfl,rfl⟩
  replace h1':impl_setOf_l1 list_ s_1 x8=some y1':=h1'
  unfold impl_setOf_l1 at h1'
  refine zC ?_
  refine zB ?_
  refine ops H' ?_
  refine zE ?_
  refine zC ?_
  refine zH (fun hc'=>?_) (fun hc'=>?_)
  ·replace h1':=(ifT hc').symm.trans h1'
   refine zR ?_
   refine zC ?_
   refine zJ ?_
   refine zC ?_
   refine zB ?_
   obtain ⟨x,hv',h1'⟩:=zbi h1'
   have H':=And.intro (zP hv') H'
   refine ops H' ?_
   refine zE ?_
   refine zC ?_
   refine zB ?_
   refine ops H' ?_
   obtain ⟨x13,hy',h1'⟩:=zbi h1'
   refine zO H' (fun _=>[]) (W_impl_inRange _ _ _ _ hy') ?_
   refine zE ?_
   refine zH (fun hc'=>?_) (fun hc'=>?_)
   ·replace h1':=(ifT hc').symm.trans h1'
    refine zB ?_
    obtain ⟨u,hv',h1'⟩:=zbi h1'
    have H':=And.intro (chkF hv') H'
    refine ops H' ?_
    refine zE ?_
    refine zB ?_
    refine ops H' ?_
    refine zE ?_
    obtain rfl:=zso h1'
    exact shd [3,6,7,8] [] 1 ⟨_,rfl,_,_,rfl,rfl⟩
   ·replace h1':=(ifF hc').symm.trans h1'
    refine zR ?_
    refine zB ?_
    refine ops H' ?_
    refine zE ?_
    obtain rfl:=zso h1'
    exact shd [3,6,7,8] [] 1 ⟨_,rfl,_,_,rfl,rfl⟩
  ·replace h1':=(ifF hc').symm.trans h1'
   refine exitN ?_
   obtain rfl:=zso h1'
   refine ⟨_,rfl,fun hr'=>?_⟩
   subst hr'
   exact shd [3] [] 1 ⟨_,h0',rfl⟩
 ·rintro e' ⟨s,h0',rfl⟩
  unfold impl_setOf_j1 at h0'
  refine zC ?_
  refine zB ?_
  refine ops H' ?_
  refine zE ?_
  refine retN ?_
  obtain rfl:=zso h0'
  exact outG H' rfl rfl
theorem W_impl_Body_isLive (b:T_impl_Body) (s:Int) (r':Bool) (h0':qN b s=some r'):Fn X 133 [.agg [.sc (.string b.Line),.sc (.int .i64 b.Ins),.sc (.int .i64 b.Ord),.list false 1 (List.map (rK .i64) b.Dels)],.one (.sc (.int .u64 s))] [.one (.sc (.bool r'))] []:=by
 have H':=And.intro t3 (And.intro t44 (And.intro t50 (And.intro t133 (R_i64))))
 unfold qN at h0'
 refine Fn.start (fn:=f133) (N:=17) (res:=[.tmp 4]) rfl rfl rfl rfl rfl (by simp) ?_
 refine zW H' ?_
 refine zC ?_
 refine zB ?_
 refine ops H' ?_
 refine zE ?_
 refine zC ?_
 refine zB ?_
 refine ops H' ?_
 obtain ⟨x8,hy',h0'⟩:=zbi h0'
 refine zO H' (fun _=>[]) (W_impl_set_has _ _ _ hy') ?_
 refine ops H' ?_
 obtain ⟨b_1,gh0',h0'⟩:=zbi h0'
 refine qG 7 (fun e'=>e'=⟨17,5,5,[(16,.pl (.one (.v (.sc (.bool b_1)))))],[]⟩) ?_ ?_
 ·simp only [List.take_succ_cons,List.take_zero]
  refine opsV_sp (fun hc'=>?_) (fun hc'=>?_)
  ·replace gh0':=(ifT hc').symm.trans gh0'
   refine ops H' ?_
   obtain ⟨x12,hy',gh0'⟩:=zbi gh0'
   refine zO H' (fun _=>[]) (W_impl_setOf _ _ hy') ?_
   refine ops H' ?_
   obtain rfl:=zso gh0'
   refine zD ?_
   exact ⟨rfl,shd [16] [] 5 rfl⟩
  ·replace gh0':=(ifF hc').symm.trans gh0'
   refine ops H' ?_
   obtain rfl:=zso gh0'
   refine zD ?_
   exact ⟨rfl,shd [16] [] 5 rfl⟩
 ·rintro e' rfl
  simp only [List.drop_succ_cons,List.drop_zero]
  refine ops H' ?_
  refine zE ?_
  refine retN ?_
  obtain rfl:=zso h0'
  exact outG H' rfl rfl
theorem W_impl_Weave_liveIn (w:T_impl_Weave) (s:Int) (r':(List Int)) (h0':qU w s=some r'):Fn X 92 [.one (.box false [.list false 1 (List.map (rL false 1 (rK .i64)) w.Parents),.list false 4 (List.map (zA false) w.Bodies)]),.one (.sc (.int .u64 s))] [.one (.list true 1 (List.map (rK .i64) r'))] []:=by
 have H':=And.intro t3 (And.intro t39 (And.intro t41 (And.intro t44 (And.intro t50 (And.intro R_Li64 (And.intro qD (R_i64)))))))
 unfold qU at h0'
 refine Fn.start (fn:=f92) (N:=27) (res:=[.tmp 4]) rfl rfl rfl rfl rfl (by simp) ?_
 refine zW H' ?_
 refine zC ?_
 refine zB ?_
 refine ops H' ?_
 refine zE ?_
 refine zC ?_
 refine zB ?_
 refine ops H' ?_
 refine zE ?_
 refine zU (fun e'=>∃ out_,impl_Weave_liveIn_j1 out_=some r'∧e'=⟨27,2,3,[(5,.pl (.one (.ref 2 [])))],[(2,.list true 1 (List.map (rK .i64) out_))]⟩) ?_ ?_
 ·refine zC ?_
  refine zB ?_
  refine ops H' ?_
  refine zE ?_
  obtain ⟨p,hl',h0'⟩:=zbi h0'
  refine zJ ?_
  refine zX (fun s' e'=>∃ x13 out__1,s'=(x13,out__1)∧e'=⟨27,2,3,[(1,.pl (.one (.v (.sc (.int .u64 s))))),(5,.pl (.one (.ref 2 []))),(11,.pl (.one (.v (.list false 4 (List.map (zA false) w.Bodies))))),(12,.pl (.one (.v (.sc (.int .i64 (w.Bodies.length:Int)))))),(13,.pl (.one (.v (.sc (.int .i64 x13)))))],[(2,.list true 1 (List.map (rK .i64) out__1))]⟩) hl' (shd [1,5,11,12,13] [(3,2)] 3 ⟨_,_,rfl,rfl⟩) ?_
  rintro s' y1' e' h1' ⟨x13,out__1,rfl,rfl⟩
  replace h1':qL w s x13 out__1=some y1':=h1'
  unfold qL at h1'
  refine zC ?_
  refine zB ?_
  refine ops H' ?_
  refine zE ?_
  refine zC ?_
  refine zH (fun hc'=>?_) (fun hc'=>?_)
  ·replace h1':=(ifT hc').symm.trans h1'
   refine zR ?_
   refine zC ?_
   refine zJ ?_
   refine zC ?_
   refine zB ?_
   obtain ⟨x,hv',h1'⟩:=zbi h1'
   have H':=And.intro (zP hv') H'
   refine ops H' ?_
   refine zE ?_
   refine zC ?_
   refine zB ?_
   refine ops H' ?_
   obtain ⟨x20,hy',h1'⟩:=zbi h1'
   refine zO H' (fun _=>[]) (W_impl_Body_isLive _ _ _ hy') ?_
   refine zE ?_
   refine zH (fun hc'=>?_) (fun hc'=>?_)
   ·replace h1':=(ifT hc').symm.trans h1'
    refine zB ?_
    obtain ⟨l,hv',h1'⟩:=zbi h1'
    have H':=And.intro (app1_f hv') H'
    refine ops H' ?_
    refine zE ?_
    refine zB ?_
    refine ops H' ?_
    refine zE ?_
    obtain rfl:=zso h1'
    exact shd [1,5,11,12,13] [(2,2)] 3 ⟨_,rfl,_,_,rfl,rfl⟩
   ·replace h1':=(ifF hc').symm.trans h1'
    refine zR ?_
    refine zB ?_
    refine ops H' ?_
    refine zE ?_
    obtain rfl:=zso h1'
    exact shd [1,5,11,12,13] [(2,2)] 3 ⟨_,rfl,_,_,rfl,rfl⟩
  ·replace h1':=(ifF hc').symm.trans h1'
   refine exitN ?_
   obtain rfl:=zso h1'
   refine ⟨_,rfl,fun hr'=>?_⟩
   subst hr'
   exact shd [5] [(2,2)] 3 ⟨_,h0',rfl⟩
 ·rintro e' ⟨out_,h0',rfl⟩
  unfold impl_Weave_liveIn_j1 at h0'
  refine zC ?_
  refine zB ?_
  refine ops H' ?_
  refine zE ?_
  refine retN ?_
  obtain rfl:=zso h0'
  exact outG H' rfl rfl
end Go.TV.KFnLives
