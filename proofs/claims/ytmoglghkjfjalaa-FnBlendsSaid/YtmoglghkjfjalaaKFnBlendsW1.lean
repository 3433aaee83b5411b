/- Walks. -/
import Derived.Test.YtmoglghkjfjalaaKFnBlendsE
import Derived.Test.YtmoglghkjfjalaaKFnBlendsW0
set_option linter.unusedVariables false
set_option linter.unusedSimpArgs false
set_option maxHeartbeats 8000000
set_option maxRecDepth 100000
namespace Go.TV.KFnBlends
attribute [local irreducible] wpV opsV Does thenV blockV RetL quV seqV Cy lpP cutP cutQ
open Go.Proofs.Try Go.TV.F
instance W_spec_l06Right:∀ c n,Wlk X (spec_l06Right c n) 53 [0] [.one (.box true [.list false 1 (List.map (rK .u8) c.b),.sc (.int .i64 c.i),.sc (.int .i64 c.h)]),.one (.sc (.int .i64 n))] (fun r'=>[.agg [.list true 1 (List.map (rL true 1 (rK .i64)) r'.1.Parents),.list true 4 (List.map (zA true) r'.1.Bodies)]]) (fun r'=>[(0,.box true [.list false 1 (List.map (rK .u8) r'.2.b),.sc (.int .i64 r'.2.i),.sc (.int .i64 r'.2.h)])]):=fun c n=>by
 refine ws f53 53 [.cell 4 33] (h2 t3 (h2 t9 (h2 t30 (h2 t31 (h2 t33 (h2 t36 (h2 R_Li64 (h2 zP (h2 R_i64 (h2 R_s R_u8)))))))))) ?_
 intro r'; unfold spec_l06Right
 refine go ?_
 refine l1 ?_
 refine go ?_
 refine l1 ?_
 refine go ?_
 refine jn (fun e'=>∃ c_1 c_2 c_3 w w_1,spec_l06Right_j1 c_1 c_2 c_3 w w_1=some r'∧e'=⟨53,2,4,[(4,.pl (.one (.ref 2 []))),(5,.pl (.one (.ref 3 [])))],[(0,.box true [.list false 1 (List.map (rK .u8) c_1),.sc (.int .i64 c_2),.sc (.int .i64 c_3)]),(2,.box true [.list true 1 (List.map (rL true 1 (rK .i64)) []),.list true 4 (List.map (zA true) [])]),(3,.box true [.list true 1 (List.map (rL true 1 (rK .i64)) w),.list true 4 (List.map (zA true) w_1)])]⟩) ?_ ?_
 ·refine go ?_
  refine lp (fun s' e'=>∃ v c_4 c_5 c_6 w_2 w_3,s'=(v,c_4,c_5,c_6,w_2,w_3)∧e'=⟨53,2,4,[(0,.pl (.one (.ref 0 []))),(1,.pl (.one (.v (.sc (.int .i64 n))))),(4,.pl (.one (.ref 2 []))),(5,.pl (.one (.ref 3 []))),(6,.pl (.one (.v (.sc (.int .i64 v)))))],[(0,.box true [.list false 1 (List.map (rK .u8) c_4),.sc (.int .i64 c_5),.sc (.int .i64 c_6)]),(2,.box true [.list true 1 (List.map (rL true 1 (rK .i64)) []),.list true 4 (List.map (zA true) [])]),(3,.box true [.list true 1 (List.map (rL true 1 (rK .i64)) w_2),.list true 4 (List.map (zA true) w_3)])]⟩) [0,1,4,5,6] [(0,0),(2,2),(3,3)] 4 ⟨_,_,_,_,_,_,rfl,rfl⟩ ?_
  rintro s' _ ⟨v,c_4,c_5,c_6,w_2,w_3,rfl,rfl⟩ y1'
  change Tl _ (spec_l06Right_l1 n v c_4 c_5 c_6 w_2 w_3) _ _; unfold spec_l06Right_l1
  refine sq ?_
  refine go ?_
  refine sp ?_ ?_
  ·refine go ?_
   refine sq ?_
   refine go ?_; intro x20
   refine go ?_
   refine bx ?_; intro x25 hy_x25
   refine bx ?_; intro x26 hy_x26
   refine bx ?_; intro x27 hy_x27
   refine jr (fun e'=>e'=⟨53,2,6,[(0,.pl (.one (.ref 0 []))),(1,.pl (.one (.v (.sc (.int .i64 n))))),(4,.pl (.one (.ref 2 []))),(5,.pl (.one (.ref 3 []))),(6,.pl (.one (.v (.sc (.int .i64 v))))),(7,.pl (.one (.ref 4 []))),(8,.pl (.one (.ref 5 [])))],[(0,.box true [.list false 1 (List.map (rK .u8) x27.2.b),.sc (.int .i64 x27.2.i),.sc (.int .i64 x27.2.h)]),(2,.box true [.list true 1 (List.map (rL true 1 (rK .i64)) []),.list true 4 (List.map (zA true) [])]),(3,.box true [.list true 1 (List.map (rL true 1 (rK .i64)) w_2),.list true 4 (List.map (zA true) w_3)]),(4,.list true 1 (List.map (rK .i64) x20.1)),(5,.list true 1 (List.map rS x27.1))]⟩) ?_ ?_
   ·refine t0 fun H'=>?_
    refine regAnyF [] ?_
    refine (?_:anyF X ?o0 _ _ ?P0 _)
    have d0':anyF X ?o0 [0,1,2,3,4,5,6,7] [] ?P0 ⟨53,2,6,[(0,.pl (.one (.ref 0 []))),(1,.pl (.one (.v (.sc (.int .i64 n))))),(4,.pl (.one (.ref 2 []))),(5,.pl (.one (.ref 3 []))),(6,.pl (.one (.v (.sc (.int .i64 v))))),(7,.pl (.one (.ref 4 []))),(8,.pl (.one (.ref 5 [])))],[(0,.box true [.list false 1 (List.map (rK .u8) x27.2.b),.sc (.int .i64 x27.2.i),.sc (.int .i64 x27.2.h)]),(2,.box true [.list true 1 (List.map (rL true 1 (rK .i64)) []),.list true 4 (List.map (zA true) [])]),(3,.box true [.list true 1 (List.map (rL true 1 (rK .i64)) w_2),.list true 4 (List.map (zA true) w_3)]),(4,.list true 1 (List.map (rK .i64) x20.1)),(5,.list true 1 (List.map rS x27.1))]⟩:=by
     refine fend (e2:=⟨53,2,6,[(0,.pl (.one (.ref 0 []))),(1,.pl (.one (.v (.sc (.int .i64 n))))),(4,.pl (.one (.ref 2 []))),(5,.pl (.one (.ref 3 []))),(6,.pl (.one (.v (.sc (.int .i64 v))))),(7,.pl (.one (.ref 4 []))),(8,.pl (.one (.ref 5 [])))],[(0,.box true [.list false 1 (List.map (rK .u8) x27.2.b),.sc (.int .i64 x27.2.i),.sc (.int .i64 x27.2.h)]),(2,.box true [.list true 1 (List.map (rL true 1 (rK .i64)) []),.list true 4 (List.map (zA true) [])]),(3,.box true [.list true 1 (List.map (rL true 1 (rK .i64)) w_2),.list true 4 (List.map (zA true) w_3)]),(4,.list true 1 (List.map (rK .i64) x20.1)),(5,.list true 1 (List.map rS x27.1))]⟩) [] [] [] [] trivial (cpN (shd [0,1,4,5,6,7,8] [(0,0),(2,2),(3,3),(4,4),(5,5)] 6 rfl))
    have d1':anyF X ?o0 [0,1,2,3,4,5,6] [] ?P0 ⟨53,2,6,[(0,.pl (.one (.ref 0 []))),(1,.pl (.one (.v (.sc (.int .i64 n))))),(4,.pl (.one (.ref 2 []))),(5,.pl (.one (.ref 3 []))),(6,.pl (.one (.v (.sc (.int .i64 v))))),(7,.pl (.one (.ref 4 []))),(27,.pl (.one (.ref 5 [])))],[(0,.box true [.list false 1 (List.map (rK .u8) x27.2.b),.sc (.int .i64 x27.2.i),.sc (.int .i64 x27.2.h)]),(2,.box true [.list true 1 (List.map (rL true 1 (rK .i64)) []),.list true 4 (List.map (zA true) [])]),(3,.box true [.list true 1 (List.map (rL true 1 (rK .i64)) w_2),.list true 4 (List.map (zA true) w_3)]),(4,.list true 1 (List.map (rK .i64) x20.1)),(5,.list true 1 (List.map rS x27.1))]⟩:=by
     refine fnode [] [.m 7 [] [0,1,2,3,4,5,6,7] []] [] [(7,false,[],[0,1,2,3,4,5,6,7])] ⟨?_,trivial⟩
     ·refine obMx ⟨53,2,6,[(0,.pl (.one (.ref 0 []))),(1,.pl (.one (.v (.sc (.int .i64 n))))),(4,.pl (.one (.ref 2 []))),(5,.pl (.one (.ref 3 []))),(6,.pl (.one (.v (.sc (.int .i64 v))))),(7,.pl (.one (.ref 4 []))),(27,.pl (.one (.ref 5 [])))],[(0,.box true [.list false 1 (List.map (rK .u8) x27.2.b),.sc (.int .i64 x27.2.i),.sc (.int .i64 x27.2.h)]),(2,.box true [.list true 1 (List.map (rL true 1 (rK .i64)) []),.list true 4 (List.map (zA true) [])]),(3,.box true [.list true 1 (List.map (rL true 1 (rK .i64)) w_2),.list true 4 (List.map (zA true) w_3)]),(4,.list true 1 (List.map (rK .i64) x20.1)),(5,.list true 1 (List.map rS x27.1))]⟩ ?_
      refine ops H' ?_
      refine zD ⟨rfl,.inl ⟨rfl,?_⟩⟩
      exact zH [0,1,4,5,6,7,8] [(0,0),(2,2),(3,3),(4,4),(5,5)] 6 d0'
    have d2':anyF X ?o0 [0,1,2,3,4,5] [] ?P0 ⟨53,2,6,[(0,.pl (.one (.ref 0 []))),(1,.pl (.one (.v (.sc (.int .i64 n))))),(4,.pl (.one (.ref 2 []))),(5,.pl (.one (.ref 3 []))),(6,.pl (.one (.v (.sc (.int .i64 v))))),(7,.pl (.one (.ref 4 []))),(21,.pl (.one (.ref 0 []))),(26,.pl (.one (.ref 5 [])))],[(0,.box true [.list false 1 (List.map (rK .u8) x20.2.b),.sc (.int .i64 x20.2.i),.sc (.int .i64 x20.2.h)]),(2,.box true [.list true 1 (List.map (rL true 1 (rK .i64)) []),.list true 4 (List.map (zA true) [])]),(3,.box true [.list true 1 (List.map (rL true 1 (rK .i64)) w_2),.list true 4 (List.map (zA true) w_3)]),(4,.list true 1 (List.map (rK .i64) x20.1)),(5,.list true 1 (List.map rS x26))]⟩:=by
     refine fnode [] [.m 6 [] [0,1,2,3,4,5,6] []] [] [(6,false,[],[0,1,2,3,4,5,6])] ⟨?_,trivial⟩
     ·refine obMx ⟨53,2,6,[(0,.pl (.one (.ref 0 []))),(1,.pl (.one (.v (.sc (.int .i64 n))))),(4,.pl (.one (.ref 2 []))),(5,.pl (.one (.ref 3 []))),(6,.pl (.one (.v (.sc (.int .i64 v))))),(7,.pl (.one (.ref 4 []))),(21,.pl (.one (.ref 0 []))),(26,.pl (.one (.ref 5 [])))],[(0,.box true [.list false 1 (List.map (rK .u8) x20.2.b),.sc (.int .i64 x20.2.i),.sc (.int .i64 x20.2.h)]),(2,.box true [.list true 1 (List.map (rL true 1 (rK .i64)) []),.list true 4 (List.map (zA true) [])]),(3,.box true [.list true 1 (List.map (rL true 1 (rK .i64)) w_2),.list true 4 (List.map (zA true) w_3)]),(4,.list true 1 (List.map (rK .i64) x20.1)),(5,.list true 1 (List.map rS x26))]⟩ ?_
      refine opsV_frz H' 5 ?_
      refine callGD H' (fun _=>[0]) ((W_spec_l04Near _ _).w _ hy_x27) ?_
      refine zD ⟨rfl,.inl ⟨rfl,?_⟩⟩
      exact zH [0,1,4,5,6,7,27] [(0,0),(2,2),(3,3),(4,4),(6,5)] 6 d1'
    have d3':anyF X ?o0 [0,1,2,3,4] [] ?P0 ⟨53,2,6,[(0,.pl (.one (.ref 0 []))),(1,.pl (.one (.v (.sc (.int .i64 n))))),(4,.pl (.one (.ref 2 []))),(5,.pl (.one (.ref 3 []))),(6,.pl (.one (.v (.sc (.int .i64 v))))),(7,.pl (.one (.ref 4 []))),(21,.pl (.one (.ref 0 []))),(22,.pl (.agg [.ref 3 [(0,0,0)],.ref 3 [(0,0,1)]])),(25,.pl (.one (.ref 5 [])))],[(0,.box true [.list false 1 (List.map (rK .u8) x20.2.b),.sc (.int .i64 x20.2.i),.sc (.int .i64 x20.2.h)]),(2,.box true [.list true 1 (List.map (rL true 1 (rK .i64)) []),.list true 4 (List.map (zA true) [])]),(3,.box true [.list true 1 (List.map (rL true 1 (rK .i64)) w_2),.list true 4 (List.map (zA true) w_3)]),(4,.list true 1 (List.map (rK .i64) x20.1)),(5,.list true 1 (List.map (rK .i64) x25))]⟩:=by
     refine fnode [] [.m 5 [] [0,1,2,3,4,5] []] [] [(5,false,[],[0,1,2,3,4,5])] ⟨?_,trivial⟩
     ·refine obMx ⟨53,2,6,[(0,.pl (.one (.ref 0 []))),(1,.pl (.one (.v (.sc (.int .i64 n))))),(4,.pl (.one (.ref 2 []))),(5,.pl (.one (.ref 3 []))),(6,.pl (.one (.v (.sc (.int .i64 v))))),(7,.pl (.one (.ref 4 []))),(21,.pl (.one (.ref 0 []))),(22,.pl (.agg [.ref 3 [(0,0,0)],.ref 3 [(0,0,1)]])),(25,.pl (.one (.ref 5 [])))],[(0,.box true [.list false 1 (List.map (rK .u8) x20.2.b),.sc (.int .i64 x20.2.i),.sc (.int .i64 x20.2.h)]),(2,.box true [.list true 1 (List.map (rL true 1 (rK .i64)) []),.list true 4 (List.map (zA true) [])]),(3,.box true [.list true 1 (List.map (rL true 1 (rK .i64)) w_2),.list true 4 (List.map (zA true) w_3)]),(4,.list true 1 (List.map (rK .i64) x20.1)),(5,.list true 1 (List.map (rK .i64) x25))]⟩ ?_
      refine callG H' (fun _=>[]) ((W_spec_l06Lines _ _).w _ hy_x26) ?_
      refine zD ⟨rfl,.inl ⟨rfl,?_⟩⟩
      exact zH [0,1,4,5,6,7,21,26] [(0,0),(2,2),(3,3),(4,4),(6,5)] 6 d2'
    have d4':anyF X ?o0 [0,1,2,3] [] ?P0 ⟨53,2,5,[(0,.pl (.one (.ref 0 []))),(1,.pl (.one (.v (.sc (.int .i64 n))))),(4,.pl (.one (.ref 2 []))),(5,.pl (.one (.ref 3 []))),(6,.pl (.one (.v (.sc (.int .i64 v))))),(7,.pl (.one (.ref 4 []))),(21,.pl (.one (.ref 0 []))),(22,.pl (.agg [.ref 3 [(0,0,0)],.ref 3 [(0,0,1)]])),(23,.pl (.agg [.ref 3 [(0,0,0)],.ref 3 [(0,0,1)]])),(24,.pl (.one (.ref 4 [])))],[(0,.box true [.list false 1 (List.map (rK .u8) x20.2.b),.sc (.int .i64 x20.2.i),.sc (.int .i64 x20.2.h)]),(2,.box true [.list true 1 (List.map (rL true 1 (rK .i64)) []),.list true 4 (List.map (zA true) [])]),(3,.box true [.list true 1 (List.map (rL true 1 (rK .i64)) w_2),.list true 4 (List.map (zA true) w_3)]),(4,.list true 1 (List.map (rK .i64) x20.1))]⟩:=by
     refine fnode [] [.m 4 [] [0,1,2,3,4] []] [] [(4,false,[],[0,1,2,3,4])] ⟨?_,trivial⟩
     ·refine obMx ⟨53,2,5,[(0,.pl (.one (.ref 0 []))),(1,.pl (.one (.v (.sc (.int .i64 n))))),(4,.pl (.one (.ref 2 []))),(5,.pl (.one (.ref 3 []))),(6,.pl (.one (.v (.sc (.int .i64 v))))),(7,.pl (.one (.ref 4 []))),(21,.pl (.one (.ref 0 []))),(22,.pl (.agg [.ref 3 [(0,0,0)],.ref 3 [(0,0,1)]])),(23,.pl (.agg [.ref 3 [(0,0,0)],.ref 3 [(0,0,1)]])),(24,.pl (.one (.ref 4 [])))],[(0,.box true [.list false 1 (List.map (rK .u8) x20.2.b),.sc (.int .i64 x20.2.i),.sc (.int .i64 x20.2.h)]),(2,.box true [.list true 1 (List.map (rL true 1 (rK .i64)) []),.list true 4 (List.map (zA true) [])]),(3,.box true [.list true 1 (List.map (rL true 1 (rK .i64)) w_2),.list true 4 (List.map (zA true) w_3)]),(4,.list true 1 (List.map (rK .i64) x20.1))]⟩ ?_
      refine callG H' (fun _=>[]) ((W_spec_l06Seen _ _).w _ hy_x25) ?_
      refine zD ⟨rfl,.inl ⟨rfl,?_⟩⟩
      exact zH [0,1,4,5,6,7,21,22,25] [(0,0),(2,2),(3,3),(4,4),(5,5)] 6 d3'
    have d5':anyF X ?o0 [0,1,3] [] ?P0 ⟨53,2,5,[(0,.pl (.one (.ref 0 []))),(1,.pl (.one (.v (.sc (.int .i64 n))))),(4,.pl (.one (.ref 2 []))),(5,.pl (.one (.ref 3 []))),(6,.pl (.one (.v (.sc (.int .i64 v))))),(7,.pl (.one (.ref 4 []))),(21,.pl (.one (.ref 0 []))),(22,.pl (.agg [.ref 3 [(0,0,0)],.ref 3 [(0,0,1)]])),(24,.pl (.one (.ref 4 [])))],[(0,.box true [.list false 1 (List.map (rK .u8) x20.2.b),.sc (.int .i64 x20.2.i),.sc (.int .i64 x20.2.h)]),(2,.box true [.list true 1 (List.map (rL true 1 (rK .i64)) []),.list true 4 (List.map (zA true) [])]),(3,.box true [.list true 1 (List.map (rL true 1 (rK .i64)) w_2),.list true 4 (List.map (zA true) w_3)]),(4,.list true 1 (List.map (rK .i64) x20.1))]⟩:=by
     refine fnode [] [.m 2 [] [0,1,2,3] []] [] [(2,false,[],[0,1,2,3])] ⟨?_,trivial⟩
     ·refine obMx ⟨53,2,5,[(0,.pl (.one (.ref 0 []))),(1,.pl (.one (.v (.sc (.int .i64 n))))),(4,.pl (.one (.ref 2 []))),(5,.pl (.one (.ref 3 []))),(6,.pl (.one (.v (.sc (.int .i64 v))))),(7,.pl (.one (.ref 4 []))),(21,.pl (.one (.ref 0 []))),(22,.pl (.agg [.ref 3 [(0,0,0)],.ref 3 [(0,0,1)]])),(24,.pl (.one (.ref 4 [])))],[(0,.box true [.list false 1 (List.map (rK .u8) x20.2.b),.sc (.int .i64 x20.2.i),.sc (.int .i64 x20.2.h)]),(2,.box true [.list true 1 (List.map (rL true 1 (rK .i64)) []),.list true 4 (List.map (zA true) [])]),(3,.box true [.list true 1 (List.map (rL true 1 (rK .i64)) w_2),.list true 4 (List.map (zA true) w_3)]),(4,.list true 1 (List.map (rK .i64) x20.1))]⟩ ?_
      refine ops H' ?_
      refine zD ⟨rfl,.inl ⟨rfl,?_⟩⟩
      exact zH [0,1,4,5,6,7,21,22,23,24] [(0,0),(2,2),(3,3),(4,4)] 5 d4'
    have d6':anyF X ?o0 [0,2,3,4] [] ?P0 ⟨53,2,6,[(0,.pl (.one (.ref 0 []))),(1,.pl (.one (.v (.sc (.int .i64 n))))),(4,.pl (.one (.ref 2 []))),(5,.pl (.one (.ref 3 []))),(6,.pl (.one (.v (.sc (.int .i64 v))))),(7,.pl (.one (.ref 4 []))),(21,.pl (.one (.ref 0 []))),(25,.pl (.one (.ref 5 [])))],[(0,.box true [.list false 1 (List.map (rK .u8) x20.2.b),.sc (.int .i64 x20.2.i),.sc (.int .i64 x20.2.h)]),(2,.box true [.list true 1 (List.map (rL true 1 (rK .i64)) []),.list true 4 (List.map (zA true) [])]),(3,.box true [.list true 1 (List.map (rL true 1 (rK .i64)) w_2),.list true 4 (List.map (zA true) w_3)]),(4,.list true 1 (List.map (rK .i64) x20.1)),(5,.list true 1 (List.map (rK .i64) x25))]⟩:=by
     refine fnode [] [.m 1 [] [0,1,2,3,4] []] [] [(1,false,[],[0,1,2,3,4])] ⟨?_,trivial⟩
     ·refine obMx ⟨53,2,6,[(0,.pl (.one (.ref 0 []))),(1,.pl (.one (.v (.sc (.int .i64 n))))),(4,.pl (.one (.ref 2 []))),(5,.pl (.one (.ref 3 []))),(6,.pl (.one (.v (.sc (.int .i64 v))))),(7,.pl (.one (.ref 4 []))),(21,.pl (.one (.ref 0 []))),(25,.pl (.one (.ref 5 [])))],[(0,.box true [.list false 1 (List.map (rK .u8) x20.2.b),.sc (.int .i64 x20.2.i),.sc (.int .i64 x20.2.h)]),(2,.box true [.list true 1 (List.map (rL true 1 (rK .i64)) []),.list true 4 (List.map (zA true) [])]),(3,.box true [.list true 1 (List.map (rL true 1 (rK .i64)) w_2),.list true 4 (List.map (zA true) w_3)]),(4,.list true 1 (List.map (rK .i64) x20.1)),(5,.list true 1 (List.map (rK .i64) x25))]⟩ ?_
      refine ops H' ?_
      refine zD ⟨rfl,.inl ⟨rfl,?_⟩⟩
      exact zH [0,1,4,5,6,7,21,22,25] [(0,0),(2,2),(3,3),(4,4),(5,5)] 6 d3'
    have d7':anyF X ?o0 [0,2,3] [] ?P0 ⟨53,2,5,[(0,.pl (.one (.ref 0 []))),(1,.pl (.one (.v (.sc (.int .i64 n))))),(4,.pl (.one (.ref 2 []))),(5,.pl (.one (.ref 3 []))),(6,.pl (.one (.v (.sc (.int .i64 v))))),(7,.pl (.one (.ref 4 []))),(21,.pl (.one (.ref 0 []))),(23,.pl (.agg [.ref 3 [(0,0,0)],.ref 3 [(0,0,1)]])),(24,.pl (.one (.ref 4 [])))],[(0,.box true [.list false 1 (List.map (rK .u8) x20.2.b),.sc (.int .i64 x20.2.i),.sc (.int .i64 x20.2.h)]),(2,.box true [.list true 1 (List.map (rL true 1 (rK .i64)) []),.list true 4 (List.map (zA true) [])]),(3,.box true [.list true 1 (List.map (rL true 1 (rK .i64)) w_2),.list true 4 (List.map (zA true) w_3)]),(4,.list true 1 (List.map (rK .i64) x20.1))]⟩:=by
     refine fnode [] [.m 1 [] [0,1,2,3] [],.m 4 [] [0,2,3,4] []] [] [(1,false,[],[0,1,2,3]),(4,false,[],[0,2,3,4])] ⟨?_,?_,trivial⟩
     ·refine obMx ⟨53,2,5,[(0,.pl (.one (.ref 0 []))),(1,.pl (.one (.v (.sc (.int .i64 n))))),(4,.pl (.one (.ref 2 []))),(5,.pl (.one (.ref 3 []))),(6,.pl (.one (.v (.sc (.int .i64 v))))),(7,.pl (.one (.ref 4 []))),(21,.pl (.one (.ref 0 []))),(23,.pl (.agg [.ref 3 [(0,0,0)],.ref 3 [(0,0,1)]])),(24,.pl (.one (.ref 4 [])))],[(0,.box true [.list false 1 (List.map (rK .u8) x20.2.b),.sc (.int .i64 x20.2.i),.sc (.int .i64 x20.2.h)]),(2,.box true [.list true 1 (List.map (rL true 1 (rK .i64)) []),.list true 4 (List.map (zA true) [])]),(3,.box true [.list true 1 (List.map (rL true 1 (rK .i64)) w_2),.list true 4 (List.map (zA true) w_3)]),(4,.list true 1 (List.map (rK .i64) x20.1))]⟩ ?_
      refine ops H' ?_
      refine zD ⟨rfl,.inl ⟨rfl,?_⟩⟩
      exact zH [0,1,4,5,6,7,21,22,23,24] [(0,0),(2,2),(3,3),(4,4)] 5 d4'
     ·refine obMx ⟨53,2,5,[(0,.pl (.one (.ref 0 []))),(1,.pl (.one (.v (.sc (.int .i64 n))))),(4,.pl (.one (.ref 2 []))),(5,.pl (.one (.ref 3 []))),(6,.pl (.one (.v (.sc (.int .i64 v))))),(7,.pl (.one (.ref 4 []))),(21,.pl (.one (.ref 0 []))),(23,.pl (.agg [.ref 3 [(0,0,0)],.ref 3 [(0,0,1)]])),(24,.pl (.one (.ref 4 [])))],[(0,.box true [.list false 1 (List.map (rK .u8) x20.2.b),.sc (.int .i64 x20.2.i),.sc (.int .i64 x20.2.h)]),(2,.box true [.list true 1 (List.map (rL true 1 (rK .i64)) []),.list true 4 (List.map (zA true) [])]),(3,.box true [.list true 1 (List.map (rL true 1 (rK .i64)) w_2),.list true 4 (List.map (zA true) w_3)]),(4,.list true 1 (List.map (rK .i64) x20.1))]⟩ ?_
      refine callG H' (fun _=>[]) ((W_spec_l06Seen _ _).w _ hy_x25) ?_
      refine zD ⟨rfl,.inl ⟨rfl,?_⟩⟩
      exact zH [0,1,4,5,6,7,21,25] [(0,0),(2,2),(3,3),(4,4),(5,5)] 6 d6'
    have d8':anyF X ?o0 [0,3] [] ?P0 ⟨53,2,5,[(0,.pl (.one (.ref 0 []))),(1,.pl (.one (.v (.sc (.int .i64 n))))),(4,.pl (.one (.ref 2 []))),(5,.pl (.one (.ref 3 []))),(6,.pl (.one (.v (.sc (.int .i64 v))))),(7,.pl (.one (.ref 4 []))),(21,.pl (.one (.ref 0 []))),(24,.pl (.one (.ref 4 [])))],[(0,.box true [.list false 1 (List.map (rK .u8) x20.2.b),.sc (.int .i64 x20.2.i),.sc (.int .i64 x20.2.h)]),(2,.box true [.list true 1 (List.map (rL true 1 (rK .i64)) []),.list true 4 (List.map (zA true) [])]),(3,.box true [.list true 1 (List.map (rL true 1 (rK .i64)) w_2),.list true 4 (List.map (zA true) w_3)]),(4,.list true 1 (List.map (rK .i64) x20.1))]⟩:=by
     refine fnode [] [.m 1 [] [0,1,3] [],.m 2 [] [0,2,3] []] [] [(1,false,[],[0,1,3]),(2,false,[],[0,2,3])] ⟨?_,?_,trivial⟩
     ·refine obMx ⟨53,2,5,[(0,.pl (.one (.ref 0 []))),(1,.pl (.one (.v (.sc (.int .i64 n))))),(4,.pl (.one (.ref 2 []))),(5,.pl (.one (.ref 3 []))),(6,.pl (.one (.v (.sc (.int .i64 v))))),(7,.pl (.one (.ref 4 []))),(21,.pl (.one (.ref 0 []))),(24,.pl (.one (.ref 4 [])))],[(0,.box true [.list false 1 (List.map (rK .u8) x20.2.b),.sc (.int .i64 x20.2.i),.sc (.int .i64 x20.2.h)]),(2,.box true [.list true 1 (List.map (rL true 1 (rK .i64)) []),.list true 4 (List.map (zA true) [])]),(3,.box true [.list true 1 (List.map (rL true 1 (rK .i64)) w_2),.list true 4 (List.map (zA true) w_3)]),(4,.list true 1 (List.map (rK .i64) x20.1))]⟩ ?_
      refine ops H' ?_
      refine zD ⟨rfl,.inl ⟨rfl,?_⟩⟩
      exact zH [0,1,4,5,6,7,21,22,24] [(0,0),(2,2),(3,3),(4,4)] 5 d5'
     ·refine obMx ⟨53,2,5,[(0,.pl (.one (.ref 0 []))),(1,.pl (.one (.v (.sc (.int .i64 n))))),(4,.pl (.one (.ref 2 []))),(5,.pl (.one (.ref 3 []))),(6,.pl (.one (.v (.sc (.int .i64 v))))),(7,.pl (.one (.ref 4 []))),(21,.pl (.one (.ref 0 []))),(24,.pl (.one (.ref 4 [])))],[(0,.box true [.list false 1 (List.map (rK .u8) x20.2.b),.sc (.int .i64 x20.2.i),.sc (.int .i64 x20.2.h)]),(2,.box true [.list true 1 (List.map (rL true 1 (rK .i64)) []),.list true 4 (List.map (zA true) [])]),(3,.box true [.list true 1 (List.map (rL true 1 (rK .i64)) w_2),.list true 4 (List.map (zA true) w_3)]),(4,.list true 1 (List.map (rK .i64) x20.1))]⟩ ?_
      refine ops H' ?_
      refine zD ⟨rfl,.inl ⟨rfl,?_⟩⟩
      exact zH [0,1,4,5,6,7,21,23,24] [(0,0),(2,2),(3,3),(4,4)] 5 d7'
    refine fpure H' 0 [0] [] ?_
    refine fpure H' 3 [0,3] [] ?_
    exact zH [0,1,4,5,6,7,21,24] [(0,0),(2,2),(3,3),(4,4)] 5 d8'
   ·rintro e' rfl; refine cn ?_
    refine jn (fun e'=>∃ c_7 c_8 c_9 lines,spec_l06Right_j2 v w_2 w_3 x20 c_7 c_8 c_9 lines=some y1'∧e'=⟨53,2,6,[(0,.pl (.one (.ref 0 []))),(1,.pl (.one (.v (.sc (.int .i64 n))))),(4,.pl (.one (.ref 2 []))),(5,.pl (.one (.ref 3 []))),(6,.pl (.one (.v (.sc (.int .i64 v))))),(7,.pl (.one (.ref 4 []))),(8,.pl (.one (.ref 5 [])))],[(0,.box true [.list false 1 (List.map (rK .u8) c_7),.sc (.int .i64 c_8),.sc (.int .i64 c_9)]),(2,.box true [.list true 1 (List.map (rL true 1 (rK .i64)) []),.list true 4 (List.map (zA true) [])]),(3,.box true [.list true 1 (List.map (rL true 1 (rK .i64)) w_2),.list true 4 (List.map (zA true) w_3)]),(4,.list true 1 (List.map (rK .i64) x20.1)),(5,.list true 1 (List.map rS lines))]⟩) ?_ ?_
    ·refine go ?_
     refine gc 3 (fun b e'=>e'=⟨53,2,6,[(0,.pl (.one (.ref 0 []))),(1,.pl (.one (.v (.sc (.int .i64 n))))),(4,.pl (.one (.ref 2 []))),(5,.pl (.one (.ref 3 []))),(6,.pl (.one (.v (.sc (.int .i64 v))))),(7,.pl (.one (.ref 4 []))),(8,.pl (.one (.ref 5 []))),(33,.pl (.one (.v (.sc (.bool b.1)))))],[(0,.box true [.list false 1 (List.map (rK .u8) b.2.1),.sc (.int .i64 b.2.2.1),.sc (.int .i64 b.2.2.2)]),(2,.box true [.list true 1 (List.map (rL true 1 (rK .i64)) []),.list true 4 (List.map (zA true) [])]),(3,.box true [.list true 1 (List.map (rL true 1 (rK .i64)) w_2),.list true 4 (List.map (zA true) w_3)]),(4,.list true 1 (List.map (rK .i64) x20.1)),(5,.list true 1 (List.map rS x27.1))]⟩) ?_ ?_
     ·intro p
      refine opsV_spR ?_ ?_
      ·refine go ?_
       exact ge [0,1,4,5,6,7,8,33] [(0,0),(2,2),(3,3),(4,4),(5,5)] 6 rfl
      ·refine go ?_; intro x32
       refine go ?_
       exact ge [0,1,4,5,6,7,8,33] [(0,0),(2,2),(3,3),(4,4),(5,5)] 6 rfl
     ·rintro b _ rfl
      refine go ?_
      refine sp ?_ ?_
      ·refine go ?_; intro x35
       refine go ?_
       exact je [0,1,4,5,6,7,8] [(0,0),(2,2),(3,3),(4,4),(6,5)] 6 fun h=>⟨_,_,_,_,h,rfl⟩
      ·refine go ?_
       exact je [0,1,4,5,6,7,8] [(0,0),(2,2),(3,3),(4,4),(5,5)] 6 fun h=>⟨_,_,_,_,h,rfl⟩
    ·rintro e' ⟨c_7,c_8,c_9,lines,h,rfl⟩; refine tl h ?_; unfold spec_l06Right_j2
     refine jn (fun e'=>∃ lines_1,spec_l06Right_j3 v w_2 w_3 x20 c_7 c_8 c_9 lines_1=some y1'∧e'=⟨53,2,6,[(0,.pl (.one (.ref 0 []))),(1,.pl (.one (.v (.sc (.int .i64 n))))),(4,.pl (.one (.ref 2 []))),(5,.pl (.one (.ref 3 []))),(6,.pl (.one (.v (.sc (.int .i64 v))))),(7,.pl (.one (.ref 4 []))),(8,.pl (.one (.ref 5 [])))],[(0,.box true [.list false 1 (List.map (rK .u8) c_7),.sc (.int .i64 c_8),.sc (.int .i64 c_9)]),(2,.box true [.list true 1 (List.map (rL true 1 (rK .i64)) []),.list true 4 (List.map (zA true) [])]),(3,.box true [.list true 1 (List.map (rL true 1 (rK .i64)) w_2),.list true 4 (List.map (zA true) w_3)]),(4,.list true 1 (List.map (rK .i64) x20.1)),(5,.list true 1 (List.map rS lines_1))]⟩) ?_ ?_
     ·refine go ?_
      refine sp ?_ ?_
      ·refine go ?_; intro x40 v'
       refine go ?_
       refine lf ?_ (fun a g=>opsV_cutO a g)
       refine go ?_
       exact je [0,1,4,5,6,7,8] [(0,0),(2,2),(3,3),(4,4),(6,5)] 6 fun h=>⟨_,h,rfl⟩
      ·refine go ?_
       exact je [0,1,4,5,6,7,8] [(0,0),(2,2),(3,3),(4,4),(5,5)] 6 fun h=>⟨_,h,rfl⟩
     ·rintro e' ⟨lines_1,h,rfl⟩; refine tl h ?_; unfold spec_l06Right_j3
      refine go ?_; intro x45
      refine go ?_
      refine l1 ?_
      refine go ?_
      refine sp ?_ ?_
      ·refine go ?_
       exact bk [0,1,4,5,6] [(0,0),(2,2),(3,3)] 4 ⟨_,_,_,_,_,_,rfl,rfl⟩
      ·refine go ?_
       exact bk [0,1,4,5,6] [(0,0),(2,2),(3,3)] 4 ⟨_,_,_,_,_,_,rfl,rfl⟩
  ·refine go ?_
   exact je [4,5] [(0,0),(2,2),(3,3)] 4 fun h=>⟨_,_,_,_,_,h,rfl⟩
 ·rintro e' ⟨c_1,c_2,c_3,w,w_1,h,rfl⟩; refine tl h ?_; unfold spec_l06Right_j1
  exact gz
instance W_spec_DrawPair:∀ code,Wlk X (spec_DrawPair code) 13 [] [.one (.list false 1 (List.map (rK .u8) code))] (fun r'=>[.agg [.list true 1 (List.map (rL true 1 (rK .i64)) r'.1.Parents),.list true 4 (List.map (zA true) r'.1.Bodies)],.one (.sc (.int .i64 r'.2.1)),.one (.sc (.int .i64 r'.2.2))]) (fun r'=>[]):=fun code=>by
 refine ws f13 29 [.cell 2 33,.tmp 3,.tmp 4] (h2 t3 (h2 t30 (h2 t33 (h2 R_Li64 (h2 zP (h2 R_i64 R_u8)))))) ?_
 intro r'; unfold spec_DrawPair
 refine go ?_
 refine l1 ?_
 refine go ?_; intro x9
 refine go ?_; intro x13
 refine go ?_; intro x14
 refine go ?_; intro x16
 refine go ?_
 refine l1 ?_
 refine go ?_; intro x21
 refine go ?_
 refine rc [1,2,3,0,4,5,6,7,8,9] ?_
 refine go ?_; intro x28
 exact gz
instance W_impl_inRange:∀ n least most,Wlk X (impl_inRange n least most) 105 [] [.one (.sc (.int .i64 n)),.one (.sc (.int .i64 least)),.one (.sc (.int .i64 most))] (fun r'=>[.one (.sc (.bool r'))]) (fun r'=>[]):=fun n least most=>by
 refine ws f105 15 [.tmp 6] t3 ?_
 intro r'; unfold impl_inRange
 refine go ?_
 refine gc 4 (fun b e'=>e'=⟨15,3,3,[(14,.pl (.one (.v (.sc (.bool b)))))],[]⟩) ?_ ?_
 ·intro p
  refine opsV_spL ?_ ?_
  ·refine go ?_
   exact ge [14] [] 3 rfl
  ·refine go ?_
   exact ge [14] [] 3 rfl
 ·rintro b _ rfl
  exact gz
instance W_impl_ascends:∀ list_ below,Wlk X (impl_ascends list_ below) 75 [] [.one (.list false 1 (List.map (rK .i64) list_)),.one (.sc (.int .i64 below))] (fun r'=>[.one (.sc (.bool r'))]) (fun r'=>[]):=fun list_ below=>by
 refine ws f75 33 [.tmp 4] (h2 t3 (h2 t43 R_i64)) ?_
 intro r'; unfold impl_ascends
 refine go ?_
 refine jn (fun e'=>impl_ascends_j1=some r'∧e'=⟨33,2,2,[],[]⟩) ?_ ?_
 ·refine go ?_
  refine lp (fun x9 e'=>e'=⟨33,2,2,[(0,.pl (.one (.v (.list false 1 (List.map (rK .i64) list_))))),(1,.pl (.one (.v (.sc (.int .i64 below))))),(7,.pl (.one (.v (.list false 1 (List.map (rK .i64) list_))))),(8,.pl (.one (.v (.sc (.int .i64 (list_.length:Int)))))),(9,.pl (.one (.v (.sc (.int .i64 x9)))))],[]⟩) [0,1,7,8,9] [] 2 rfl ?_
  rintro x9 _ rfl y1'
  change Tl _ (jA list_ below x9) _ _; unfold jA
  refine go ?_
  refine sq ?_
  refine go ?_
  refine sp ?_ ?_
  ·refine go ?_
   refine sq ?_
   refine go ?_; intro x v'
   refine go ?_; intro x17
   refine go ?_
   refine gc 12 (fun b e'=>e'=⟨33,2,2,[(0,.pl (.one (.v (.list false 1 (List.map (rK .i64) list_))))),(1,.pl (.one (.v (.sc (.int .i64 below))))),(7,.pl (.one (.v (.list false 1 (List.map (rK .i64) list_))))),(8,.pl (.one (.v (.sc (.int .i64 (list_.length:Int)))))),(9,.pl (.one (.v (.sc (.int .i64 x9))))),(31,.pl (.one (.v (.sc (.bool b)))))],[]⟩) ?_ ?_
   ·intro p
    refine opsV_spR ?_ ?_
    ·refine go ?_
     exact ge [0,1,7,8,9,31] [] 2 rfl
    ·refine go ?_
     refine gc 8 (fun b_1 e'=>e'=⟨33,2,2,[(0,.pl (.one (.v (.list false 1 (List.map (rK .i64) list_))))),(1,.pl (.one (.v (.sc (.int .i64 below))))),(7,.pl (.one (.v (.list false 1 (List.map (rK .i64) list_))))),(8,.pl (.one (.v (.sc (.int .i64 (list_.length:Int)))))),(9,.pl (.one (.v (.sc (.int .i64 x9))))),(19,.pl (.one (.v (.sc (.bool false))))),(20,.pl (.one (.v (.sc (.int .i64 x9))))),(21,.pl (.one (.v (.sc (.bool (decide (x9 > 0))))))),(30,.pl (.one (.v (.sc (.bool b_1)))))],[]⟩) ?_ ?_
     ·intro p
      refine opsV_spL ?_ ?_
      ·refine go ?_; intro x_1 v'
       refine go ?_
       exact ge [0,1,7,8,9,19,20,21,30] [] 2 rfl
      ·refine go ?_
       exact ge [0,1,7,8,9,19,20,21,30] [] 2 rfl
     ·rintro b_1 _ rfl
      refine go ?_
      exact ge [0,1,7,8,9,31] [] 2 rfl
   ·rintro b _ rfl
    refine go ?_
    refine sp ?_ ?_
    ·exact gz
    ·refine go ?_
     exact bk [0,1,7,8,9] [] 2 rfl
  ·refine go ?_
   exact je [] [] 2 fun h=>⟨h,rfl⟩
 ·rintro e' ⟨h,rfl⟩; refine tl h ?_; unfold impl_ascends_j1
  exact gz
instance W_impl_GraphOk:∀ parents,Wlk X (impl_GraphOk parents) 127 [] [.one (.list false 1 (List.map (rL false 1 (rK .i64)) parents))] (fun r'=>[.one (.sc (.bool r'))]) (fun r'=>[]):=fun parents=>by
 refine ws f127 25 [.tmp 2] (h2 t3 (h2 t30 (h2 t43 (h2 R_Li64 R_i64)))) ?_
 intro r'; unfold impl_GraphOk
 refine go ?_
 refine jn (fun e'=>impl_GraphOk_j1 parents=some r'∧e'=⟨25,1,1,[(0,.pl (.one (.v (.list false 1 (List.map (rL false 1 (rK .i64)) parents)))))],[]⟩) ?_ ?_
 ·refine go ?_
  refine lp (fun x7 e'=>e'=⟨25,1,1,[(0,.pl (.one (.v (.list false 1 (List.map (rL false 1 (rK .i64)) parents))))),(5,.pl (.one (.v (.list false 1 (List.map (rL false 1 (rK .i64)) parents))))),(6,.pl (.one (.v (.sc (.int .i64 (parents.length:Int)))))),(7,.pl (.one (.v (.sc (.int .i64 x7)))))],[]⟩) [0,5,6,7] [] 1 rfl ?_
  rintro x7 _ rfl y1'
  change Tl _ (jB parents x7) _ _; unfold jB
  refine go ?_
  refine sq ?_
  refine go ?_
  refine sp ?_ ?_
  ·refine go ?_
   refine sq ?_
   refine go ?_; intro x v'
   refine go ?_
   refine gc 5 (fun b e'=>e'=⟨25,1,1,[(0,.pl (.one (.v (.list false 1 (List.map (rL false 1 (rK .i64)) parents))))),(5,.pl (.one (.v (.list false 1 (List.map (rL false 1 (rK .i64)) parents))))),(6,.pl (.one (.v (.sc (.int .i64 (parents.length:Int)))))),(7,.pl (.one (.v (.sc (.int .i64 x7))))),(20,.pl (.one (.v (.sc (.bool b)))))],[]⟩) ?_ ?_
   ·intro p
    refine opsV_spR ?_ ?_
    ·refine go ?_
     exact ge [0,5,6,7,20] [] 1 rfl
    ·refine go ?_; intro x18
     refine go ?_
     exact ge [0,5,6,7,20] [] 1 rfl
   ·rintro b _ rfl
    refine go ?_
    refine sp ?_ ?_
    ·exact gz
    ·refine go ?_
     exact bk [0,5,6,7] [] 1 rfl
  ·refine go ?_
   exact je [0] [] 1 fun h=>⟨h,rfl⟩
 ·rintro e' ⟨h,rfl⟩; refine tl h ?_; unfold impl_GraphOk_j1
  exact gz
instance W_impl_unionOf:∀ closed list_,Wlk X (impl_unionOf closed list_) 79 [] [.one (.list false 1 (List.map (rK .u64) closed)),.one (.list false 1 (List.map (rK .i64) list_))] (fun r'=>[.one (.sc (.int .u64 r'))]) (fun r'=>[]):=fun closed list_=>by
 refine ws f79 22 [.tmp 4] (h2 t3 (h2 t43 (h2 t105 (h2 t106 (h2 R_i64 R_u64))))) ?_
 intro r'; unfold impl_unionOf
 refine go ?_
 refine jn (fun e'=>∃ s,impl_unionOf_j1 s=some r'∧e'=⟨22,2,2,[(5,.pl (.one (.v (.sc (.int .u64 s)))))],[]⟩) ?_ ?_
 ·refine go ?_
  refine lp (fun s' e'=>∃ s_1 x10,s'=(s_1,x10)∧e'=⟨22,2,2,[(0,.pl (.one (.v (.list false 1 (List.map (rK .u64) closed))))),(5,.pl (.one (.v (.sc (.int .u64 s_1))))),(8,.pl (.one (.v (.list false 1 (List.map (rK .i64) list_))))),(9,.pl (.one (.v (.sc (.int .i64 (list_.length:Int)))))),(10,.pl (.one (.v (.sc (.int .i64 x10)))))],[]⟩) [0,5,8,9,10] [] 2 ⟨_,_,rfl,rfl⟩ ?_
  rintro s' _ ⟨s_1,x10,rfl,rfl⟩ y1'
  change Tl _ (impl_unionOf_l1 closed list_ s_1 x10) _ _; unfold impl_unionOf_l1
  refine go ?_
  refine sq ?_
  refine go ?_
  refine sp ?_ ?_
  ·refine go ?_
   refine sq ?_
   refine go ?_; intro x v'
   refine go ?_; intro x_1 v'
   refine go ?_
   exact bk [0,5,8,9,10] [] 2 ⟨_,_,rfl,rfl⟩
  ·refine go ?_
   exact je [5] [] 2 fun h=>⟨_,h,rfl⟩
 ·rintro e' ⟨s,h,rfl⟩; refine tl h ?_; unfold impl_unionOf_j1
  exact gz
instance W_impl_closures:∀ parents,Wlk X (impl_closures parents) 60 [] [.one (.list false 1 (List.map (rL false 1 (rK .i64)) parents))] (fun r'=>[.one (.list true 1 (List.map (rK .u64) r'))]) (fun r'=>[]):=fun parents=>by
 refine ws f60 28 [.tmp 2] (h2 t3 (h2 t30 (h2 t43 (h2 t105 (h2 t106 (h2 t162 (h2 R_Li64 (h2 R_i64 R_u64)))))))) ?_
 intro r'; unfold impl_closures
 refine go ?_
 refine l1 ?_
 refine go ?_; intro x8 v'
 refine go ?_
 refine jn (fun e'=>∃ out_,impl_closures_j1 out_=some r'∧e'=⟨28,1,2,[(3,.pl (.one (.ref 1 [])))],[(1,.list true 1 (List.map (rK .u64) out_))]⟩) ?_ ?_
 ·refine go ?_
  refine lp (fun s' e'=>∃ x11 out__1,s'=(x11,out__1)∧e'=⟨28,1,2,[(3,.pl (.one (.ref 1 []))),(9,.pl (.one (.v (.list false 1 (List.map (rL false 1 (rK .i64)) parents))))),(10,.pl (.one (.v (.sc (.int .i64 (parents.length:Int)))))),(11,.pl (.one (.v (.sc (.int .i64 x11)))))],[(1,.list true 1 (List.map (rK .u64) out__1))]⟩) [3,9,10,11] [(2,1)] 2 ⟨_,_,rfl,rfl⟩ ?_
  rintro s' _ ⟨x11,out__1,rfl,rfl⟩ y1'
  change Tl _ (impl_closures_l1 parents x11 out__1) _ _; unfold impl_closures_l1
  refine go ?_
  refine sq ?_
  refine go ?_
  refine sp ?_ ?_
  ·refine go ?_
   refine sq ?_
   refine go ?_; intro x v'
   refine go ?_; intro x20
   refine go ?_; intro u v'
   refine go ?_; intro x_1 v'
   refine go ?_
   exact bk [3,9,10,11] [(1,1)] 2 ⟨_,_,rfl,rfl⟩
  ·refine go ?_
   exact je [3] [(1,1)] 2 fun h=>⟨_,h,rfl⟩
 ·rintro e' ⟨out_,h,rfl⟩; refine tl h ?_; unfold impl_closures_j1
  exact gz
theorem W_strings_Contains (s:ByteArray) (x:ByteArray) (r':Bool) (h0':strings_Contains s x=some r'):Fn X 181 [.one (.sc (.string s)),.one (.sc (.string x))] [.one (.sc (.bool r'))] []:=by
 unfold strings_Contains at h0'
 split at h0'
 case isFalse=>cases h0'
 rename_i hs
 obtain rfl:=zso h0'
 exact Fn_pureB ⟨_,Go.Proofs.Try.func181,rfl,rfl⟩ (fun w hg=>by
  obtain ⟨y,hy,hy2⟩:=hg _ _ (by rfl:X.G (Go.Proofs.Try.lays144_ren.g 1)=some isNum)
  obtain ⟨m,hm⟩:=isNum_cell hy hy2
  exact Go.Proofs.Any.strings_Contains {Go.Proofs.Try.lays144 with} s x m w hs hm)
instance:∀ s x,Wlk X (strings_Contains s x) 181 [] [.one (.sc (.string s)),.one (.sc (.string x))] (fun r'=>[.one (.sc (.bool r'))]) (fun r'=>[]):=fun s x=>⟨fun r' h=>W_strings_Contains s x r' h⟩
instance W_impl_LineOk:∀ line,Wlk X (impl_LineOk line) 155 [] [.one (.sc (.string line))] (fun r'=>[.one (.sc (.bool r'))]) (fun r'=>[]):=fun line=>by
 refine ws f155 11 [.tmp 2] (h2 t3 t9) ?_
 intro r'; unfold impl_LineOk
 refine go ?_
 refine gc 4 (fun b e'=>e'=⟨11,1,1,[(10,.pl (.one (.v (.sc (.bool b)))))],[]⟩) ?_ ?_
 ·intro p
  refine opsV_spL ?_ ?_
  ·refine go ?_; intro x8
   refine go ?_
   exact ge [10] [] 1 rfl
  ·refine go ?_
   exact ge [10] [] 1 rfl
 ·rintro b _ rfl
  exact gz
instance W_impl_isPlace:∀ n size,Wlk X (impl_isPlace n size) 129 [] [.one (.sc (.int .i64 n)),.one (.sc (.int .i64 size))] (fun r'=>[.one (.sc (.bool r'))]) (fun r'=>[]):=fun n size=>by
 refine ws f129 9 [.tmp 4] t3 ?_
 intro r'; unfold impl_isPlace
 refine go ?_; intro x8
 exact gz
instance W_impl_set_has:∀ s v,Wlk X (impl_set_has s v) 124 [] [.one (.sc (.int .u64 s)),.one (.sc (.int .i64 v))] (fun r'=>[.one (.sc (.bool r'))]) (fun r'=>[]):=fun s v=>by
 refine ws f124 15 [.tmp 4] (h2 t3 (h2 t105 t162)) ?_
 intro r'; unfold impl_set_has
 refine go ?_; intro x6
 refine go ?_
 refine gc 7 (fun b e'=>e'=⟨15,2,2,[(14,.pl (.one (.v (.sc (.bool b)))))],[]⟩) ?_ ?_
 ·intro p
  refine opsV_spL ?_ ?_
  ·refine go ?_; intro u v'
   refine go ?_
   exact ge [14] [] 2 rfl
  ·refine go ?_
   exact ge [14] [] 2 rfl
 ·rintro b _ rfl
  exact gz
instance W_impl_setOf:∀ list_,Wlk X (impl_setOf list_) 125 [] [.one (.list false 1 (List.map (rK .i64) list_))] (fun r'=>[.one (.sc (.int .u64 r'))]) (fun r'=>[]):=fun list_=>by
 refine ws f125 21 [.tmp 2] (h2 t3 (h2 t43 (h2 t105 (h2 t162 R_i64)))) ?_
 intro r'; unfold impl_setOf
 refine go ?_
 refine jn (fun e'=>∃ s,impl_setOf_j1 s=some r'∧e'=⟨21,1,1,[(3,.pl (.one (.v (.sc (.int .u64 s)))))],[]⟩) ?_ ?_
 ·refine go ?_
  refine lp (fun s' e'=>∃ s_1 x8,s'=(s_1,x8)∧e'=⟨21,1,1,[(3,.pl (.one (.v (.sc (.int .u64 s_1))))),(6,.pl (.one (.v (.list false 1 (List.map (rK .i64) list_))))),(7,.pl (.one (.v (.sc (.int .i64 (list_.length:Int)))))),(8,.pl (.one (.v (.sc (.int .i64 x8)))))],[]⟩) [3,6,7,8] [] 1 ⟨_,_,rfl,rfl⟩ ?_
  rintro s' _ ⟨s_1,x8,rfl,rfl⟩ y1'
  change Tl _ (impl_setOf_l1 list_ s_1 x8) _ _; unfold impl_setOf_l1
  refine go ?_
  refine sq ?_
  refine go ?_
  refine sp ?_ ?_
  ·refine go ?_
   refine sq ?_
   refine go ?_; intro x v'
   refine go ?_; intro x13
   refine go ?_
   refine sp ?_ ?_
   ·refine go ?_; intro u v'
    refine go ?_
    exact bk [3,6,7,8] [] 1 ⟨_,_,rfl,rfl⟩
   ·refine go ?_
    exact bk [3,6,7,8] [] 1 ⟨_,_,rfl,rfl⟩
  ·refine go ?_
   exact je [3] [] 1 fun h=>⟨_,h,rfl⟩
 ·rintro e' ⟨s,h,rfl⟩; refine tl h ?_; unfold impl_setOf_j1
  exact gz
instance W_impl_Body_isLive:∀ b s,Wlk X (impl_Body_isLive b s) 63 [] [.agg [.sc (.string b.Line),.sc (.int .i64 b.Ins),.sc (.int .i64 b.Ord),.list false 1 (List.map (rK .i64) b.Dels)],.one (.sc (.int .u64 s))] (fun r'=>[.one (.sc (.bool r'))]) (fun r'=>[]):=fun b s=>by
 refine ws f63 17 [.tmp 4] (h2 t3 (h2 t43 (h2 t105 (h2 t110 R_i64)))) ?_
 intro r'; unfold impl_Body_isLive
 refine go ?_; intro x8
 refine go ?_
 refine gc 7 (fun b_1 e'=>e'=⟨17,5,5,[(16,.pl (.one (.v (.sc (.bool b_1)))))],[]⟩) ?_ ?_
 ·intro p
  refine opsV_spL ?_ ?_
  ·refine go ?_; intro x12
   refine go ?_
   exact ge [16] [] 5 rfl
  ·refine go ?_
   exact ge [16] [] 5 rfl
 ·rintro b_1 _ rfl
  exact gz
instance W_impl_Weave_liveIn:∀ w s,Wlk X (qF w s) 78 [] [.one (.box false [.list false 1 (List.map (rL false 1 (rK .i64)) w.Parents),.list false 4 (List.map (zA false) w.Bodies)]),.one (.sc (.int .u64 s))] (fun r'=>[.one (.list true 1 (List.map (rK .i64) r'))]) (fun r'=>[]):=fun w s=>by
 refine ws f78 27 [.tmp 4] (h2 t3 (h2 t31 (h2 t33 (h2 t43 (h2 t110 (h2 R_Li64 (h2 zP R_i64))))))) ?_
 intro r'; unfold qF
 refine go ?_
 refine l1 ?_
 refine go ?_
 refine l1 ?_
 refine go ?_
 refine jn (fun e'=>∃ out_,impl_Weave_liveIn_j1 out_=some r'∧e'=⟨27,2,3,[(5,.pl (.one (.ref 2 [])))],[(2,.list true 1 (List.map (rK .i64) out_))]⟩) ?_ ?_
 ·refine go ?_
  refine lp (fun s' e'=>∃ x13 out__1,s'=(x13,out__1)∧e'=⟨27,2,3,[(1,.pl (.one (.v (.sc (.int .u64 s))))),(5,.pl (.one (.ref 2 []))),(11,.pl (.one (.v (.list false 4 (List.map (zA false) w.Bodies))))),(12,.pl (.one (.v (.sc (.int .i64 (w.Bodies.length:Int)))))),(13,.pl (.one (.v (.sc (.int .i64 x13)))))],[(2,.list true 1 (List.map (rK .i64) out__1))]⟩) [1,5,11,12,13] [(3,2)] 3 ⟨_,_,rfl,rfl⟩ ?_
  rintro s' _ ⟨x13,out__1,rfl,rfl⟩ y1'
  change Tl _ (qU w s x13 out__1) _ _; unfold qU
  refine go ?_
  refine sq ?_
  refine go ?_
  refine sp ?_ ?_
  ·refine go ?_
   refine sq ?_
   refine go ?_; intro x v'
   refine go ?_
   refine l1 ?_
   refine go ?_; intro x20
   refine go ?_
   refine sp ?_ ?_
   ·refine go ?_; intro l v'
    refine go ?_
    exact bk [1,5,11,12,13] [(2,2)] 3 ⟨_,_,rfl,rfl⟩
   ·refine go ?_
    exact bk [1,5,11,12,13] [(2,2)] 3 ⟨_,_,rfl,rfl⟩
  ·refine go ?_
   exact je [5] [(2,2)] 3 fun h=>⟨_,h,rfl⟩
 ·rintro e' ⟨out_,h,rfl⟩; refine tl h ?_; unfold impl_Weave_liveIn_j1
  exact gz
instance W_impl_bodiesOk:∀ w closed,Wlk X (impl_bodiesOk w closed) 128 [] [.agg [.list false 1 (List.map (rL false 1 (rK .i64)) w.Parents),.list false 4 (List.map (zA false) w.Bodies)],.one (.list false 1 (List.map (rK .u64) closed))] (fun r'=>[.one (.sc (.bool r'))]) (fun r'=>[]):=fun w closed=>by
 refine ws f128 97 [.tmp 4] (h2 t3 (h2 t9 (h2 t30 (h2 t31 (h2 t33 (h2 t43 (h2 t105 (h2 t106 (h2 t110 (h2 R_Li64 (h2 zP (h2 R_i64 R_u64)))))))))))) ?_
 intro r'; unfold impl_bodiesOk
 refine go ?_; intro x14 v'
 refine go ?_
 refine jn (fun e'=>∃ born,impl_bodiesOk_j1 w closed born=some r'∧e'=⟨97,3,5,[(1,.pl (.one (.v (.list false 1 (List.map (rK .u64) closed))))),(2,.pl (.one (.ref 3 []))),(5,.pl (.one (.ref 4 [])))],[(3,.box true [.list false 1 (List.map (rL false 1 (rK .i64)) w.Parents),.list false 4 (List.map (zA false) w.Bodies)]),(4,.list true 1 (List.map (rK .i64) born))]⟩) ?_ ?_
 ·refine go ?_
  refine lp (fun s' e'=>∃ x18 born_1,s'=(x18,born_1)∧e'=⟨97,3,5,[(1,.pl (.one (.v (.list false 1 (List.map (rK .u64) closed))))),(2,.pl (.one (.ref 3 []))),(5,.pl (.one (.ref 4 []))),(16,.pl (.one (.v (.list false 4 (List.map (zA false) w.Bodies))))),(17,.pl (.one (.v (.sc (.int .i64 (w.Bodies.length:Int)))))),(18,.pl (.one (.v (.sc (.int .i64 x18)))))],[(3,.box true [.list false 1 (List.map (rL false 1 (rK .i64)) w.Parents),.list false 4 (List.map (zA false) w.Bodies)]),(4,.list true 1 (List.map (rK .i64) born_1))]⟩) [1,2,5,16,17,18] [(3,3),(4,4)] 5 ⟨_,_,rfl,rfl⟩ ?_
  rintro s' _ ⟨x18,born_1,rfl,rfl⟩ y1'
  change Tl _ (qR w closed x18 born_1) _ _; unfold qR
  refine go ?_
  refine sq ?_
  refine go ?_
  refine sp ?_ ?_
  ·refine go ?_
   refine jn (fun e'=>∃ born_2,impl_bodiesOk_j3 x18 born_2=some y1'∧e'=⟨97,3,5,[(1,.pl (.one (.v (.list false 1 (List.map (rK .u64) closed))))),(2,.pl (.one (.ref 3 []))),(5,.pl (.one (.ref 4 []))),(16,.pl (.one (.v (.list false 4 (List.map (zA false) w.Bodies))))),(17,.pl (.one (.v (.sc (.int .i64 (w.Bodies.length:Int)))))),(18,.pl (.one (.v (.sc (.int .i64 x18)))))],[(3,.box true [.list false 1 (List.map (rL false 1 (rK .i64)) w.Parents),.list false 4 (List.map (zA false) w.Bodies)]),(4,.list true 1 (List.map (rK .i64) born_2))]⟩) ?_ ?_
   ·refine go ?_; intro x_2 v'
    refine go ?_
    refine l1 ?_
    refine go ?_
    refine sq ?_
    refine go ?_
    refine rq ?_
    refine go ?_; intro x24
    refine go ?_
    refine qc 7 (fun b_1 e'=>e'=⟨97,3,6,[(1,.pl (.one (.v (.list false 1 (List.map (rK .u64) closed))))),(2,.pl (.one (.ref 3 []))),(5,.pl (.one (.ref 4 []))),(7,.pl (.one (.ref 5 []))),(16,.pl (.one (.v (.list false 4 (List.map (zA false) w.Bodies))))),(17,.pl (.one (.v (.sc (.int .i64 (w.Bodies.length:Int)))))),(18,.pl (.one (.v (.sc (.int .i64 x18))))),(33,.pl (.one (.v (.sc (.bool b_1)))))],[(3,.box true [.list false 1 (List.map (rL false 1 (rK .i64)) w.Parents),.list false 4 (List.map (zA false) w.Bodies)]),(4,.list true 1 (List.map (rK .i64) born_1)),(5,.box true [.sc (.string x_2.Line),.sc (.int .i64 x_2.Ins),.sc (.int .i64 x_2.Ord),.list false 1 (List.map (rK .i64) x_2.Dels)])]⟩) ?_ ?_
    ·intro p
     refine quV_spR ?_ ?_
     ·refine go ?_
      exact ge [1,2,5,7,16,17,18,33] [(3,3),(4,4),(5,5)] 6 rfl
     ·refine go ?_; intro x31
      refine go ?_
      exact ge [1,2,5,7,16,17,18,33] [(3,3),(4,4),(5,5)] 6 rfl
    ·rintro b_1 _ rfl
     refine go ?_
     refine qc 9 (fun b_2 e'=>e'=⟨97,3,6,[(1,.pl (.one (.v (.list false 1 (List.map (rK .u64) closed))))),(2,.pl (.one (.ref 3 []))),(5,.pl (.one (.ref 4 []))),(7,.pl (.one (.ref 5 []))),(16,.pl (.one (.v (.list false 4 (List.map (zA false) w.Bodies))))),(17,.pl (.one (.v (.sc (.int .i64 (w.Bodies.length:Int)))))),(18,.pl (.one (.v (.sc (.int .i64 x18))))),(43,.pl (.one (.v (.sc (.bool b_2)))))],[(3,.box true [.list false 1 (List.map (rL false 1 (rK .i64)) w.Parents),.list false 4 (List.map (zA false) w.Bodies)]),(4,.list true 1 (List.map (rK .i64) born_1)),(5,.box true [.sc (.string x_2.Line),.sc (.int .i64 x_2.Ins),.sc (.int .i64 x_2.Ord),.list false 1 (List.map (rK .i64) x_2.Dels)])]⟩) ?_ ?_
     ·intro p
      refine quV_spR ?_ ?_
      ·refine go ?_
       exact ge [1,2,5,7,16,17,18,43] [(3,3),(4,4),(5,5)] 6 rfl
      ·refine go ?_; intro x_3 v'
       refine go ?_
       exact ge [1,2,5,7,16,17,18,43] [(3,3),(4,4),(5,5)] 6 rfl
     ·rintro b_2 _ rfl
      refine go ?_
      refine qc 7 (fun b_3 e'=>e'=⟨97,3,6,[(1,.pl (.one (.v (.list false 1 (List.map (rK .u64) closed))))),(2,.pl (.one (.ref 3 []))),(5,.pl (.one (.ref 4 []))),(7,.pl (.one (.ref 5 []))),(16,.pl (.one (.v (.list false 4 (List.map (zA false) w.Bodies))))),(17,.pl (.one (.v (.sc (.int .i64 (w.Bodies.length:Int)))))),(18,.pl (.one (.v (.sc (.int .i64 x18))))),(51,.pl (.one (.v (.sc (.bool b_3)))))],[(3,.box true [.list false 1 (List.map (rL false 1 (rK .i64)) w.Parents),.list false 4 (List.map (zA false) w.Bodies)]),(4,.list true 1 (List.map (rK .i64) born_1)),(5,.box true [.sc (.string x_2.Line),.sc (.int .i64 x_2.Ins),.sc (.int .i64 x_2.Ord),.list false 1 (List.map (rK .i64) x_2.Dels)])]⟩) ?_ ?_
      ·intro p
       refine quV_spR ?_ ?_
       ·refine go ?_
        exact ge [1,2,5,7,16,17,18,51] [(3,3),(4,4),(5,5)] 6 rfl
       ·refine go ?_; intro x49
        refine go ?_
        exact ge [1,2,5,7,16,17,18,51] [(3,3),(4,4),(5,5)] 6 rfl
      ·rintro b_3 _ rfl
       refine go ?_
       refine sp ?_ ?_
       ·exact gz
       ·refine go ?_; intro x_4 v'
        refine go ?_
        refine lp (fun x62 e'=>e'=⟨97,3,6,[(1,.pl (.one (.v (.list false 1 (List.map (rK .u64) closed))))),(2,.pl (.one (.ref 3 []))),(5,.pl (.one (.ref 4 []))),(7,.pl (.one (.ref 5 []))),(16,.pl (.one (.v (.list false 4 (List.map (zA false) w.Bodies))))),(17,.pl (.one (.v (.sc (.int .i64 (w.Bodies.length:Int)))))),(18,.pl (.one (.v (.sc (.int .i64 x18))))),(60,.pl (.one (.v (.list false 1 (List.map (rK .i64) x_2.Dels))))),(61,.pl (.one (.v (.sc (.int .i64 (x_2.Dels.length:Int)))))),(62,.pl (.one (.v (.sc (.int .i64 x62)))))],[(3,.box true [.list false 1 (List.map (rL false 1 (rK .i64)) w.Parents),.list false 4 (List.map (zA false) w.Bodies)]),(4,.list true 1 (List.map (rK .i64) (born_1.set x_2.Ins.toNat (wk .i64 (x_4+1))))),(5,.box true [.sc (.string x_2.Line),.sc (.int .i64 x_2.Ins),.sc (.int .i64 x_2.Ord),.list false 1 (List.map (rK .i64) x_2.Dels)])]⟩) [1,2,5,7,16,17,18,60,61,62] [(3,3),(4,4),(5,5)] 6 rfl ?_
        rintro x62 _ rfl y2'
        change Tl _ (impl_bodiesOk_l3 w closed x_2 x62) _ _; unfold impl_bodiesOk_l3
        refine go ?_
        refine sq ?_
        refine go ?_
        refine sp ?_ ?_
        ·refine go ?_
         refine sq ?_
         refine go ?_; intro x_5 v'
         refine go ?_; intro x_6 v'
         refine go ?_
         refine rq ?_
         refine go ?_; intro x73
         refine go ?_; intro x74
         refine go ?_
         refine sp ?_ ?_
         ·exact gz
         ·refine go ?_
          exact bk [1,2,5,7,16,17,18,60,61,62] [(3,3),(4,4),(5,5)] 6 rfl
        ·refine go ?_
         exact je [1,2,5,16,17,18] [(3,3),(4,4)] 5 fun h=>⟨_,h,rfl⟩
   ·rintro e' ⟨born_2,h,rfl⟩; refine tl h ?_; unfold impl_bodiesOk_j3
    refine go ?_
    exact bk [1,2,5,16,17,18] [(3,3),(4,4)] 5 ⟨_,_,rfl,rfl⟩
  ·refine go ?_
   exact je [1,2,5] [(3,3),(4,4)] 5 fun h=>⟨_,h,rfl⟩
 ·rintro e' ⟨born,h,rfl⟩; refine tl h ?_; unfold impl_bodiesOk_j1
  refine jn (fun e'=>impl_bodiesOk_j2=some r'∧e'=⟨97,3,3,[],[]⟩) ?_ ?_
  ·refine go ?_
   refine lp (fun x80 e'=>e'=⟨97,3,5,[(2,.pl (.one (.ref 3 []))),(5,.pl (.one (.ref 4 []))),(78,.pl (.one (.v (.list false 1 (List.map (rK .u64) closed))))),(79,.pl (.one (.v (.sc (.int .i64 (closed.length:Int)))))),(80,.pl (.one (.v (.sc (.int .i64 x80)))))],[(3,.box true [.list false 1 (List.map (rL false 1 (rK .i64)) w.Parents),.list false 4 (List.map (zA false) w.Bodies)]),(4,.list true 1 (List.map (rK .i64) born))]⟩) [2,5,78,79,80] [(3,3),(4,4)] 5 rfl ?_
   rintro x80 _ rfl y1'
   change Tl _ (impl_bodiesOk_l1 w closed born x80) _ _; unfold impl_bodiesOk_l1
   refine go ?_
   refine sq ?_
   refine go ?_
   refine sp ?_ ?_
   ·refine go ?_
    refine sq ?_
    refine go ?_; intro x v'
    refine go ?_; intro x_1 v'
    refine go ?_
    refine gc 5 (fun b e'=>e'=⟨97,3,5,[(2,.pl (.one (.ref 3 []))),(5,.pl (.one (.ref 4 []))),(78,.pl (.one (.v (.list false 1 (List.map (rK .u64) closed))))),(79,.pl (.one (.v (.sc (.int .i64 (closed.length:Int)))))),(80,.pl (.one (.v (.sc (.int .i64 x80))))),(95,.pl (.one (.v (.sc (.bool b)))))],[(3,.box true [.list false 1 (List.map (rL false 1 (rK .i64)) w.Parents),.list false 4 (List.map (zA false) w.Bodies)]),(4,.list true 1 (List.map (rK .i64) born))]⟩) ?_ ?_
    ·intro p
     refine opsV_spR ?_ ?_
     ·refine go ?_
      exact ge [2,5,78,79,80,95] [(3,3),(4,4)] 5 rfl
     ·refine go ?_; intro x92
      refine go ?_
      exact ge [2,5,78,79,80,95] [(3,3),(4,4)] 5 rfl
    ·rintro b _ rfl
     refine go ?_
     refine sp ?_ ?_
     ·exact gz
     ·refine go ?_
      exact bk [2,5,78,79,80] [(3,3),(4,4)] 5 rfl
   ·refine go ?_
    exact je [] [] 3 fun h=>⟨h,rfl⟩
  ·rintro e' ⟨h,rfl⟩; refine tl h ?_; unfold impl_bodiesOk_j2
   exact gz
instance W_impl_WeaveOk:∀ w,Wlk X (impl_WeaveOk w) 74 [] [.agg [.list false 1 (List.map (rL false 1 (rK .i64)) w.Parents),.list false 4 (List.map (zA false) w.Bodies)]] (fun r'=>[.one (.sc (.bool r'))]) (fun r'=>[]):=fun w=>by
 refine ws f74 19 [.tmp 2] (h2 t3 (h2 t30 (h2 t31 (h2 t33 (h2 R_Li64 (h2 zP (h2 R_i64 R_u64))))))) ?_
 intro r'; unfold impl_WeaveOk
 refine go ?_
 refine bx ?_; intro b gh0_1_0
 refine bx ?_; intro b_1 gh1_1_0
 refine jr (fun e'=>e'=⟨19,2,2,[(2,.pl (.one (.v (.sc (.bool b_1)))))],[]⟩) ?_ ?_
 ·refine rc [0,1,2,3,4,5,6,7,8,9,10,11,12,13,14,15,16] ?_
  refine go ?_
  refine cs (fun c0=>?_) (fun c0=>?_)
  ·replace gh0_1_0:=(ifT c0).symm.trans gh0_1_0
   obtain ⟨x10,hy_x10,gh0_1_0⟩:=zbi gh0_1_0
   obtain rfl:=zso gh0_1_0
   refine go ?_
   refine cc hy_x10 ?_
   refine go ?_
   refine cs (fun c1=>?_) (fun c1=>?_)
   ·replace gh1_1_0:=(ifT c1).symm.trans gh1_1_0
    obtain ⟨x16,hy_x16,gh1_1_0⟩:=zbi gh1_1_0
    obtain ⟨x17,hy_x17,gh1_1_0⟩:=zbi gh1_1_0
    obtain rfl:=zso gh1_1_0
    refine go ?_
    refine cc hy_x16 ?_
    refine cc hy_x17 ?_
    refine go ?_
    exact gq [2] [] 2 rfl
   ·replace gh1_1_0:=(ifF c1).symm.trans gh1_1_0
    obtain rfl:=zso gh1_1_0
    refine go ?_
    exact gq [2] [] 2 rfl
  ·replace gh0_1_0:=(ifF c0).symm.trans gh0_1_0
   obtain rfl:=zso gh0_1_0
   refine go ?_
   replace gh1_1_0:=(ifF rfl).symm.trans gh1_1_0
   obtain rfl:=zso gh1_1_0
   refine go ?_
   exact gq [2] [] 2 rfl
 ·rintro e' rfl; refine cn ?_
  exact gz
instance W_impl_Weave_areVersions:∀ w list_,Wlk X (qP w list_) 76 [] [.one (.box false [.list false 1 (List.map (rL false 1 (rK .i64)) w.Parents),.list false 4 (List.map (zA false) w.Bodies)]),.one (.list false 1 (List.map (rK .i64) list_))] (fun r'=>[.one (.sc (.bool r'))]) (fun r'=>[]):=fun w list_=>by
 refine ws f76 22 [.tmp 4] (h2 t3 (h2 t30 (h2 t33 (h2 t43 (h2 R_Li64 (h2 zP R_i64)))))) ?_
 intro r'; unfold qP
 refine go ?_
 refine jn (fun e'=>impl_Weave_areVersions_j1=some r'∧e'=⟨22,2,2,[],[]⟩) ?_ ?_
 ·refine go ?_
  refine lp (fun x9 e'=>e'=⟨22,2,2,[(0,.pl (.one (.v (.box false [.list false 1 (List.map (rL false 1 (rK .i64)) w.Parents),.list false 4 (List.map (zA false) w.Bodies)])))),(7,.pl (.one (.v (.list false 1 (List.map (rK .i64) list_))))),(8,.pl (.one (.v (.sc (.int .i64 (list_.length:Int)))))),(9,.pl (.one (.v (.sc (.int .i64 x9)))))],[]⟩) [0,7,8,9] [] 2 rfl ?_
  rintro x9 _ rfl y1'
  change Tl _ (qX w list_ x9) _ _; unfold qX
  refine go ?_
  refine sq ?_
  refine go ?_
  refine sp ?_ ?_
  ·refine go ?_
   refine sq ?_
   refine go ?_; intro x v'
   refine go ?_; intro x19
   refine go ?_
   refine sp ?_ ?_
   ·exact gz
   ·refine go ?_
    exact bk [0,7,8,9] [] 2 rfl
  ·refine go ?_
   exact je [] [] 2 fun h=>⟨h,rfl⟩
 ·rintro e' ⟨h,rfl⟩; refine tl h ?_; unfold impl_Weave_areVersions_j1
  exact gz
instance W_impl_Weave_linesAt:∀ w places,Wlk X (qO w places) 77 [] [.one (.box false [.list false 1 (List.map (rL false 1 (rK .i64)) w.Parents),.list false 4 (List.map (zA false) w.Bodies)]),.one (.list false 1 (List.map (rK .i64) places))] (fun r'=>[.one (.list true 1 (List.map rS r'))]) (fun r'=>[]):=fun w places=>by
 refine ws f77 27 [.tmp 4] (h2 t3 (h2 t9 (h2 t31 (h2 t33 (h2 t36 (h2 t43 (h2 t110 (h2 R_Li64 (h2 zP (h2 R_i64 R_s)))))))))) ?_
 intro r'; unfold qO
 refine go ?_
 refine l1 ?_
 refine go ?_
 refine l1 ?_
 refine go ?_
 refine jn (fun e'=>∃ out_,impl_Weave_linesAt_j1 out_=some r'∧e'=⟨27,2,3,[(5,.pl (.one (.ref 2 [])))],[(2,.list true 1 (List.map rS out_))]⟩) ?_ ?_
 ·refine go ?_
  refine lp (fun s' e'=>∃ x10 out__1,s'=(x10,out__1)∧e'=⟨27,2,3,[(0,.pl (.one (.v (.box false [.list false 1 (List.map (rL false 1 (rK .i64)) w.Parents),.list false 4 (List.map (zA false) w.Bodies)])))),(5,.pl (.one (.ref 2 []))),(8,.pl (.one (.v (.list false 1 (List.map (rK .i64) places))))),(9,.pl (.one (.v (.sc (.int .i64 (places.length:Int)))))),(10,.pl (.one (.v (.sc (.int .i64 x10)))))],[(2,.list true 1 (List.map rS out__1))]⟩) [0,5,8,9,10] [(3,2)] 3 ⟨_,_,rfl,rfl⟩ ?_
  rintro s' _ ⟨x10,out__1,rfl,rfl⟩ y1'
  change Tl _ (qS w places x10 out__1) _ _; unfold qS
  refine go ?_
  refine sq ?_
  refine go ?_
  refine sp ?_ ?_
  ·refine go ?_
   refine sq ?_
   refine go ?_; intro x v'
   refine go ?_; intro x_1 v'
   refine go ?_; intro l v'
   refine go ?_
   exact bk [0,5,8,9,10] [(2,2)] 3 ⟨_,_,rfl,rfl⟩
  ·refine go ?_
   exact je [5] [(2,2)] 3 fun h=>⟨_,h,rfl⟩
 ·rintro e' ⟨out_,h,rfl⟩; refine tl h ?_; unfold impl_Weave_linesAt_j1
  exact gz
instance W_impl_SeenBy:∀ w parents,Wlk X (impl_SeenBy w parents) 24 [] [.agg [.list false 1 (List.map (rL false 1 (rK .i64)) w.Parents),.list false 4 (List.map (zA false) w.Bodies)],.one (.list false 1 (List.map (rK .i64) parents))] (fun r'=>[.one (.list true 1 (List.map rS r'))]) (fun r'=>[]):=fun w parents=>by
 refine ws f24 20 [.tmp 4] (h2 t30 (h2 t33 (h2 R_Li64 (h2 zP (h2 R_i64 (h2 R_s R_u64)))))) ?_
 intro r'; unfold impl_SeenBy
 refine go ?_
 refine l1 ?_
 refine go ?_
 refine sq ?_
 refine go ?_; intro x6
 refine go ?_
 refine gc 4 (fun b e'=>e'=⟨20,3,4,[(1,.pl (.one (.v (.list false 1 (List.map (rK .i64) parents))))),(2,.pl (.one (.ref 3 []))),(12,.pl (.one (.v (.sc (.bool b)))))],[(3,.box true [.list false 1 (List.map (rL false 1 (rK .i64)) w.Parents),.list false 4 (List.map (zA false) w.Bodies)])]⟩) ?_ ?_
 ·intro p
  refine opsV_spR ?_ ?_
  ·refine go ?_
   exact ge [1,2,12] [(3,3)] 4 rfl
  ·refine go ?_; intro x10
   refine go ?_
   exact ge [1,2,12] [(3,3)] 4 rfl
 ·rintro b _ rfl
  refine go ?_
  refine sp ?_ ?_
  ·refine go ?_
   refine l1 ?_
   exact gz
  ·refine go ?_; intro x15
   refine go ?_; intro x17
   refine go ?_; intro x18
   refine go ?_; intro x19
   exact gz
instance W_impl_Blend:∀ w list_,Wlk X (impl_Blend w list_) 23 [] [.agg [.list false 1 (List.map (rL false 1 (rK .i64)) w.Parents),.list false 4 (List.map (zA false) w.Bodies)],.one (.list false 1 (List.map (rK .i64) list_))] (fun r'=>[.one (.list true 1 (List.map rS r'.1)),.one (.sc (.int .i64 r'.2))]) (fun r'=>[]):=fun w list_=>by
 refine ws f23 28 [.tmp 4,.tmp 5] (h2 t3 (h2 t30 (h2 t33 (h2 t36 (h2 t43 (h2 R_Li64 (h2 zP (h2 R_i64 R_s)))))))) ?_
 intro r'; unfold impl_Blend
 refine go ?_
 refine l1 ?_
 refine go ?_
 refine sq ?_
 refine go ?_; intro x8
 refine go ?_
 refine sp ?_ ?_
 ·refine go ?_
  refine l1 ?_
  exact gz
 ·refine go ?_
  refine sq ?_
  refine go ?_
  refine gc 7 (fun b e'=>e'=⟨28,3,4,[(1,.pl (.one (.v (.list false 1 (List.map (rK .i64) list_))))),(2,.pl (.one (.ref 3 []))),(20,.pl (.one (.v (.sc (.bool b)))))],[(3,.box true [.list false 1 (List.map (rL false 1 (rK .i64)) w.Parents),.list false 4 (List.map (zA false) w.Bodies)])]⟩) ?_ ?_
  ·intro p
   refine opsV_spR ?_ ?_
   ·refine go ?_
    exact ge [1,2,20] [(3,3)] 4 rfl
   ·refine go ?_; intro x18
    refine go ?_
    exact ge [1,2,20] [(3,3)] 4 rfl
  ·rintro b _ rfl
   refine go ?_
   refine sp ?_ ?_
   ·refine go ?_
    refine l1 ?_
    exact gz
   ·refine go ?_; intro x23
    refine go ?_
    refine sq ?_
    refine go ?_
    refine sp ?_ ?_
    ·refine go ?_
     refine l1 ?_
     exact gz
    ·exact gz
instance W_laws_sameTexts:∀ a b,Wlk X (laws_sameTexts a b) 17 [] [.one (.list false 1 (List.map rS a)),.one (.list false 1 (List.map rS b))] (fun r'=>[.one (.sc (.bool r'))]) (fun r'=>[]):=fun a b=>by
 refine ws f17 26 [.tmp 4] (h2 t3 (h2 t9 (h2 t36 R_s))) ?_
 intro r'; unfold laws_sameTexts
 refine go ?_
 refine sq ?_
 refine go ?_
 refine sp ?_ ?_
 ·exact gz
 ·refine go ?_
  refine jn (fun e'=>laws_sameTexts_j1=some r'∧e'=⟨26,2,2,[],[]⟩) ?_ ?_
  ·refine go ?_
   refine lp (fun i e'=>e'=⟨26,2,2,[(0,.pl (.one (.v (.list false 1 (List.map rS a))))),(1,.pl (.one (.v (.list false 1 (List.map rS b))))),(5,.pl (.one (.v (.sc (.int .i64 i)))))],[]⟩) [0,1,5] [] 2 rfl ?_
   rintro i _ rfl y1'
   change Tl _ (laws_sameTexts_l1 a b i) _ _; unfold laws_sameTexts_l1
   refine sq ?_
   refine go ?_
   refine sp ?_ ?_
   ·refine go ?_
    refine sq ?_
    refine go ?_
    refine rq ?_
    refine go ?_; intro x v'
    refine go ?_; intro x_1 v'
    refine go ?_
    refine sp ?_ ?_
    ·exact gz
    ·refine go ?_
     exact bk [0,1,5] [] 2 rfl
   ·refine go ?_
    exact je [] [] 2 fun h=>⟨h,rfl⟩
  ·rintro e' ⟨h,rfl⟩; refine tl h ?_; unfold laws_sameTexts_j1
   exact gz
instance W_impl_areLines:∀ list_,Wlk X (impl_areLines list_) 149 [] [.one (.list false 1 (List.map rS list_))] (fun r'=>[.one (.sc (.bool r'))]) (fun r'=>[]):=fun list_=>by
 refine ws f149 15 [.tmp 2] (h2 t3 (h2 t9 (h2 t36 R_s))) ?_
 intro r'; unfold impl_areLines
 refine go ?_
 refine jn (fun e'=>impl_areLines_j1=some r'∧e'=⟨15,1,1,[],[]⟩) ?_ ?_
 ·refine go ?_
  refine lp (fun x7 e'=>e'=⟨15,1,1,[(5,.pl (.one (.v (.list false 1 (List.map rS list_))))),(6,.pl (.one (.v (.sc (.int .i64 (list_.length:Int)))))),(7,.pl (.one (.v (.sc (.int .i64 x7)))))],[]⟩) [5,6,7] [] 1 rfl ?_
  rintro x7 _ rfl y1'
  change Tl _ (impl_areLines_l1 list_ x7) _ _; unfold impl_areLines_l1
  refine go ?_
  refine sq ?_
  refine go ?_
  refine sp ?_ ?_
  ·refine go ?_
   refine sq ?_
   refine go ?_; intro x v'
   refine go ?_; intro x12
   refine go ?_
   refine sp ?_ ?_
   ·exact gz
   ·refine go ?_
    exact bk [5,6,7] [] 1 rfl
  ·refine go ?_
   exact je [] [] 1 fun h=>⟨h,rfl⟩
 ·rintro e' ⟨h,rfl⟩; refine tl h ?_; unfold impl_areLines_j1
  exact gz
instance W_impl_LinesOk:∀ list_,Wlk X (impl_LinesOk list_) 106 [] [.one (.list false 1 (List.map rS list_))] (fun r'=>[.one (.sc (.bool r'))]) (fun r'=>[]):=fun list_=>by
 refine ws f106 10 [.tmp 2] (h2 t3 (h2 t36 R_s)) ?_
 intro r'; unfold impl_LinesOk
 refine go ?_
 refine gc 3 (fun b e'=>e'=⟨10,1,1,[(9,.pl (.one (.v (.sc (.bool b)))))],[]⟩) ?_ ?_
 ·intro p
  refine opsV_spL ?_ ?_
  ·refine go ?_; intro x8
   refine go ?_
   exact ge [9] [] 1 rfl
  ·refine go ?_
   exact ge [9] [] 1 rfl
 ·rintro b _ rfl
  exact gz
instance W_impl_addCode:∀ w parents lines,Wlk X (impl_addCode w parents lines) 80 [] [.agg [.list false 1 (List.map (rL false 1 (rK .i64)) w.Parents),.list false 4 (List.map (zA false) w.Bodies)],.one (.list false 1 (List.map (rK .i64) parents)),.one (.list false 1 (List.map rS lines))] (fun r'=>[.one (.sc (.int .i64 r'))]) (fun r'=>[]):=fun w parents lines=>by
 refine ws f80 23 [.tmp 6] (h2 t3 (h2 t30 (h2 t33 (h2 t43 (h2 R_Li64 (h2 zP (h2 R_i64 R_s))))))) ?_
 intro r'; unfold impl_addCode
 refine go ?_
 refine sq ?_
 refine go ?_
 refine gc 7 (fun b e'=>e'=⟨23,4,4,[(2,.pl (.one (.v (.list false 1 (List.map rS lines))))),(18,.pl (.one (.v (.sc (.bool b)))))],[]⟩) ?_ ?_
 ·intro p
  refine opsV_spR ?_ ?_
  ·refine go ?_
   exact ge [2,18] [] 4 rfl
  ·refine go ?_; intro x16
   refine go ?_
   exact ge [2,18] [] 4 rfl
 ·rintro b _ rfl
  refine go ?_
  refine sp ?_ ?_
  ·exact gz
  ·refine go ?_; intro x21
   refine go ?_
   refine sp ?_ ?_
   ·exact gz
   ·exact gz
theorem W_slices_Clone_int_int (s:List Int) (r':List Int) (h0':qN s=some r'):Fn X 131 [.one (.list false 1 (List.map (rK .i64) s))] [.one (.list true 1 (List.map (rK .i64) r'))] []:=by
 have H':=And.intro t3 (And.intro t43 (R_i64))
 unfold qN at h0'
 refine Fn.start (fn:=f131) (N:=8) (res:=[.tmp 2]) rfl rfl rfl rfl rfl (by simp) ?_
 refine enterG H' ?_
 refine wpV_seq1 ?_
 refine wpV_region ?_
 refine ops H' ?_
 refine opsN ?_
 refine wpV_seq1 ?_
 refine wpV_seq1 ?_
 refine wpV_region ?_
 refine ops H' ?_
 refine opsV_nilEq H' (fun b' hb'=>?_)
 refine opsN ?_
 refine wpV_split (fun hc'=>?_) (fun hc'=>?_)
 ·have hs':s=[]:=by simpa using hb' hc'
  subst hs'
  obtain rfl:r'=[]:=by simpa [appn] using h0'.symm
  refine wpV_seq1 ?_
  refine wpV_region ?_
  refine ops H' ?_
  refine opsN ?_
  refine retN ?_
  exact outG H' rfl rfl
 ·refine skipN ?_
  refine wpV_seq1 ?_
  refine wpV_region ?_
  have H':=And.intro (appz_f (rK .i64) h0') H'
  refine ops H' ?_
  refine opsN ?_
  refine retN ?_
  exact outG H' rfl rfl
instance:∀ s,Wlk X (qN s) 131 [] [.one (.list false 1 (List.map (rK .i64) s))] (fun r'=>[.one (.list true 1 (List.map (rK .i64) r'))]) (fun r'=>[]):=fun s=>⟨fun r' h=>W_slices_Clone_int_int s r' h⟩
instance W_impl_copyGraph:∀ parents,Wlk X (impl_copyGraph parents) 130 [] [.one (.list false 1 (List.map (rL false 1 (rK .i64)) parents))] (fun r'=>[.one (.list true 1 (List.map (rL true 1 (rK .i64)) r'))]) (fun r'=>[]):=fun parents=>by
 refine ws f130 19 [.tmp 2] (h2 t3 (h2 t30 (h2 t43 (h2 R_Li64 R_i64)))) ?_
 intro r'; unfold impl_copyGraph
 refine go ?_
 refine l1 ?_
 refine go ?_
 refine l1 ?_
 refine go ?_
 refine jn (fun e'=>∃ out_,impl_copyGraph_j1 out_=some r'∧e'=⟨19,1,2,[(3,.pl (.one (.ref 1 [])))],[(1,.list true 1 (List.map (rL true 1 (rK .i64)) out_))]⟩) ?_ ?_
 ·refine go ?_
  refine lp (fun s' e'=>∃ x8 out__1,s'=(x8,out__1)∧e'=⟨19,1,2,[(3,.pl (.one (.ref 1 []))),(6,.pl (.one (.v (.list false 1 (List.map (rL false 1 (rK .i64)) parents))))),(7,.pl (.one (.v (.sc (.int .i64 (parents.length:Int)))))),(8,.pl (.one (.v (.sc (.int .i64 x8)))))],[(1,.list true 1 (List.map (rL true 1 (rK .i64)) out__1))]⟩) [3,6,7,8] [(2,1)] 2 ⟨_,_,rfl,rfl⟩ ?_
  rintro s' _ ⟨x8,out__1,rfl,rfl⟩ y1'
  change Tl _ (impl_copyGraph_l1 parents x8 out__1) _ _; unfold impl_copyGraph_l1
  refine go ?_
  refine sq ?_
  refine go ?_
  refine sp ?_ ?_
  ·refine go ?_
   refine sq ?_
   refine go ?_; intro x v'
   refine go ?_; intro x14
   refine go ?_; intro l v'
   refine go ?_
   exact bk [3,6,7,8] [(1,1)] 2 ⟨_,_,rfl,rfl⟩
  ·refine go ?_
   exact je [3] [(1,1)] 2 fun h=>⟨_,h,rfl⟩
 ·rintro e' ⟨out_,h,rfl⟩; refine tl h ?_; unfold impl_copyGraph_j1
  exact gz
instance W_impl_copyWeave:∀ w,Wlk X (impl_copyWeave w) 81 [] [.agg [.list false 1 (List.map (rL false 1 (rK .i64)) w.Parents),.list false 4 (List.map (zA false) w.Bodies)]] (fun r'=>[.agg [.list true 1 (List.map (rL true 1 (rK .i64)) r'.Parents),.list true 4 (List.map (zA true) r'.Bodies)]]) (fun r'=>[]):=fun w=>by
 refine ws f81 29 [.cell 2 33] (h2 t3 (h2 t30 (h2 t31 (h2 t33 (h2 t43 (h2 t110 (h2 R_Li64 (h2 zP R_i64)))))))) ?_
 intro r'; unfold impl_copyWeave
 refine go ?_
 refine l1 ?_
 refine go ?_; intro x8
 refine go ?_
 refine l1 ?_
 refine go ?_
 refine jn (fun e'=>∃ out_,impl_copyWeave_j1 x8 out_=some r'∧e'=⟨29,2,4,[(2,.pl (.one (.ref 2 []))),(3,.pl (.one (.ref 3 [])))],[(2,.box true [.list true 1 (List.map (rL true 1 (rK .i64)) []),.list true 4 (List.map (zA true) [])]),(3,.box true [.list true 1 (List.map (rL true 1 (rK .i64)) x8),.list true 4 (List.map (zA true) out_)])]⟩) ?_ ?_
 ·refine go ?_
  refine lp (fun s' e'=>∃ x13 out__1,s'=(x13,out__1)∧e'=⟨29,2,4,[(2,.pl (.one (.ref 2 []))),(3,.pl (.one (.ref 3 []))),(11,.pl (.one (.v (.list false 4 (List.map (zA false) w.Bodies))))),(12,.pl (.one (.v (.sc (.int .i64 (w.Bodies.length:Int)))))),(13,.pl (.one (.v (.sc (.int .i64 x13)))))],[(2,.box true [.list true 1 (List.map (rL true 1 (rK .i64)) []),.list true 4 (List.map (zA true) [])]),(3,.box true [.list true 1 (List.map (rL true 1 (rK .i64)) x8),.list true 4 (List.map (zA true) out__1)])]⟩) [2,3,11,12,13] [(3,2),(5,3)] 4 ⟨_,_,rfl,rfl⟩ ?_
  rintro s' _ ⟨x13,out__1,rfl,rfl⟩ y1'
  change Tl _ (impl_copyWeave_l1 w x13 out__1) _ _; unfold impl_copyWeave_l1
  refine go ?_
  refine sq ?_
  refine go ?_
  refine sp ?_ ?_
  ·refine go ?_
   refine sq ?_
   refine go ?_; intro x v'
   refine go ?_
   refine l1 ?_
   refine go ?_; intro x19
   refine go ?_; intro l v'
   refine go ?_
   exact bk [2,3,11,12,13] [(2,2),(3,3)] 4 ⟨_,_,rfl,rfl⟩
  ·refine go ?_
   exact je [2,3] [(2,2),(3,3)] 4 fun h=>⟨_,h,rfl⟩
 ·rintro e' ⟨out_,h,rfl⟩; refine tl h ?_; unfold impl_copyWeave_j1
  exact gz
instance W_impl_commonFrom:∀ a b,Wlk X (impl_commonFrom a b) 156 [] [.one (.list false 1 (List.map rS a)),.one (.list false 1 (List.map rS b))] (fun r'=>[.one (.list true 1 (List.map (rL true 1 (rK .i64)) r'))]) (fun r'=>[]):=fun a b=>by
 refine ws f156 89 [.tmp 4] (h2 t3 (h2 t9 (h2 t30 (h2 t36 (h2 t43 (h2 R_Li64 (h2 R_i64 R_s))))))) ?_
 intro r'; unfold impl_commonFrom
 refine go ?_
 refine l1 ?_
 refine go ?_; intro x12 v'
 refine fk (mklR_f (rL true 1 (rK .i64)) [.list true 1 []] (by rfl) v') ?_
 refine go ?_
 refine jn (fun e'=>∃ table,impl_commonFrom_j1 a b table=some r'∧e'=⟨89,2,3,[(0,.pl (.one (.v (.list false 1 (List.map rS a))))),(1,.pl (.one (.v (.list false 1 (List.map rS b))))),(5,.pl (.one (.ref 2 [])))],[(2,.list true 1 (List.map (rL true 1 (rK .i64)) table))]⟩) ?_ ?_
 ·refine go ?_
  refine lp (fun s' e'=>∃ x15 table_5,s'=(x15,table_5)∧e'=⟨89,2,3,[(0,.pl (.one (.v (.list false 1 (List.map rS a))))),(1,.pl (.one (.v (.list false 1 (List.map rS b))))),(5,.pl (.one (.ref 2 []))),(14,.pl (.one (.v (.sc (.int .i64 (x12.length:Int)))))),(15,.pl (.one (.v (.sc (.int .i64 x15)))))],[(2,.list true 1 (List.map (rL true 1 (rK .i64)) table_5))]⟩) [0,1,5,14,15] [(3,2)] 3 ⟨_,_,rfl,rfl⟩ ?_
  rintro s' _ ⟨x15,table_5,rfl,rfl⟩ y1'
  change Tl _ (impl_commonFrom_l3 b x12 x15 table_5) _ _; unfold impl_commonFrom_l3
  refine go ?_
  refine sq ?_
  refine go ?_
  refine sp ?_ ?_
  ·refine go ?_
   refine sq ?_
   refine go ?_; intro x23 v'
   refine go ?_; intro x_11 v'
   refine go ?_
   exact bk [0,1,5,14,15] [(2,2)] 3 ⟨_,_,rfl,rfl⟩
  ·refine go ?_
   exact je [0,1,5] [(2,2)] 3 fun h=>⟨_,h,rfl⟩
 ·rintro e' ⟨table,h,rfl⟩; refine tl h ?_; unfold impl_commonFrom_j1
  refine jn (fun e'=>∃ table_1,impl_commonFrom_j2 table_1=some r'∧e'=⟨89,2,3,[(5,.pl (.one (.ref 2 [])))],[(2,.list true 1 (List.map (rL true 1 (rK .i64)) table_1))]⟩) ?_ ?_
  ·refine go ?_
   refine lp (fun s' e'=>∃ i table_2,s'=(i,table_2)∧e'=⟨89,2,3,[(0,.pl (.one (.v (.list false 1 (List.map rS a))))),(1,.pl (.one (.v (.list false 1 (List.map rS b))))),(5,.pl (.one (.ref 2 []))),(7,.pl (.one (.v (.sc (.int .i64 i)))))],[(2,.list true 1 (List.map (rL true 1 (rK .i64)) table_2))]⟩) [0,1,5,7] [(2,2)] 3 ⟨_,_,rfl,rfl⟩ ?_
   rintro s' _ ⟨i,table_2,rfl,rfl⟩ y1'
   change Tl _ (qV a b i table_2) _ _; unfold qV
   refine sq ?_
   refine go ?_
   refine sp ?_ ?_
   ·refine go ?_
    refine jn (fun e'=>∃ table_3,impl_commonFrom_j3 i table_3=some y1'∧e'=⟨89,2,3,[(0,.pl (.one (.v (.list false 1 (List.map rS a))))),(1,.pl (.one (.v (.list false 1 (List.map rS b))))),(5,.pl (.one (.ref 2 []))),(7,.pl (.one (.v (.sc (.int .i64 i)))))],[(2,.list true 1 (List.map (rL true 1 (rK .i64)) table_3))]⟩) ?_ ?_
    ·refine go ?_
     refine lp (fun s' e'=>∃ j table_4,s'=(j,table_4)∧e'=⟨89,2,3,[(0,.pl (.one (.v (.list false 1 (List.map rS a))))),(1,.pl (.one (.v (.list false 1 (List.map rS b))))),(5,.pl (.one (.ref 2 []))),(7,.pl (.one (.v (.sc (.int .i64 i))))),(8,.pl (.one (.v (.sc (.int .i64 j)))))],[(2,.list true 1 (List.map (rL true 1 (rK .i64)) table_4))]⟩) [0,1,5,7,8] [(2,2)] 3 ⟨_,_,rfl,rfl⟩ ?_
     rintro s' _ ⟨j,table_4,rfl,rfl⟩ y2'
     change Tl _ (qT a b i j table_4) _ _; unfold qT
     refine sq ?_
     refine go ?_
     refine sp ?_ ?_
     ·refine go ?_
      refine sq ?_
      refine go ?_
      refine rq ?_
      refine go ?_; intro x v'
      refine go ?_; intro x_1 v'
      refine go ?_
      refine sp ?_ ?_
      ·refine rc [0,1,2,3,4,5,6,7,8,9,10,11,12,13,14,15,16] ?_
       refine go ?_; intro x_2 v'
       refine go ?_; intro x_3 v'
       refine go ?_; intro x_4 v'
       refine go ?_; intro x_5 v'
       refine go ?_
       exact bk [0,1,5,7,8] [(2,2)] 3 ⟨_,_,rfl,rfl⟩
      ·refine rc [0,1,2,3,4,5,6,7,8,9,10,11,12,13,14,15,16,17,18,19,20,21,22,23] ?_
       refine go ?_; intro x_6 v'
       refine go ?_; intro x_7 v'
       refine go ?_; intro x_8 v'
       refine go ?_; intro x_9 v'
       refine go ?_; intro x_10 v'
       refine go ?_
       exact bk [0,1,5,7,8] [(2,2)] 3 ⟨_,_,rfl,rfl⟩
     ·refine go ?_
      exact je [0,1,5,7] [(2,2)] 3 fun h=>⟨_,h,rfl⟩
    ·rintro e' ⟨table_3,h,rfl⟩; refine tl h ?_; unfold impl_commonFrom_j3
     refine go ?_
     exact bk [0,1,5,7] [(2,2)] 3 ⟨_,_,rfl,rfl⟩
   ·refine go ?_
    exact je [5] [(2,2)] 3 fun h=>⟨_,h,rfl⟩
  ·rintro e' ⟨table_1,h,rfl⟩; refine tl h ?_; unfold impl_commonFrom_j2
   exact gz
instance W_impl_align:∀ a b,Wlk X (impl_align a b) 132 [] [.one (.list false 1 (List.map rS a)),.one (.list false 1 (List.map rS b))] (fun r'=>[.one (.list true 1 (List.map (rK .i64) r'))]) (fun r'=>[]):=fun a b=>by
 refine ws f132 76 [.tmp 4] (h2 t3 (h2 t9 (h2 t30 (h2 t36 (h2 t43 (h2 R_Li64 (h2 R_i64 R_s))))))) ?_
 intro r'; unfold impl_align
 refine go ?_
 refine l1 ?_
 refine go ?_; intro x12
 refine go ?_; intro x15 v'
 refine go ?_
 refine jn (fun e'=>∃ out_,impl_align_j1 a b x12 out_=some r'∧e'=⟨76,2,4,[(0,.pl (.one (.v (.list false 1 (List.map rS a))))),(1,.pl (.one (.v (.list false 1 (List.map rS b))))),(5,.pl (.one (.ref 2 []))),(6,.pl (.one (.ref 3 [])))],[(2,.list true 1 (List.map (rL true 1 (rK .i64)) x12)),(3,.list true 1 (List.map (rK .i64) out_))]⟩) ?_ ?_
 ·refine go ?_
  refine lp (fun s' e'=>∃ x18 out__3,s'=(x18,out__3)∧e'=⟨76,2,4,[(0,.pl (.one (.v (.list false 1 (List.map rS a))))),(1,.pl (.one (.v (.list false 1 (List.map rS b))))),(5,.pl (.one (.ref 2 []))),(6,.pl (.one (.ref 3 []))),(17,.pl (.one (.v (.sc (.int .i64 (x15.length:Int)))))),(18,.pl (.one (.v (.sc (.int .i64 x18)))))],[(2,.list true 1 (List.map (rL true 1 (rK .i64)) x12)),(3,.list true 1 (List.map (rK .i64) out__3))]⟩) [0,1,5,6,17,18] [(3,2),(4,3)] 4 ⟨_,_,rfl,rfl⟩ ?_
  rintro s' _ ⟨x18,out__3,rfl,rfl⟩ y1'
  change Tl _ (impl_align_l2 x15 x18 out__3) _ _; unfold impl_align_l2
  refine go ?_
  refine sq ?_
  refine go ?_
  refine sp ?_ ?_
  ·refine go ?_
   refine sq ?_
   refine go ?_; intro x_7 v'
   refine go ?_
   exact bk [0,1,5,6,17,18] [(2,2),(3,3)] 4 ⟨_,_,rfl,rfl⟩
  ·refine go ?_
   exact je [0,1,5,6] [(2,2),(3,3)] 4 fun h=>⟨_,h,rfl⟩
 ·rintro e' ⟨out_,h,rfl⟩; refine tl h ?_; unfold impl_align_j1
  refine go ?_
  refine jn (fun e'=>∃ out__1,impl_align_j2 out__1=some r'∧e'=⟨76,2,3,[(6,.pl (.one (.ref 2 [])))],[(2,.list true 1 (List.map (rK .i64) out__1))]⟩) ?_ ?_
  ·refine go ?_
   refine lp (fun s' e'=>∃ i j out__2,s'=(i,j,out__2)∧e'=⟨76,2,4,[(0,.pl (.one (.v (.list false 1 (List.map rS a))))),(1,.pl (.one (.v (.list false 1 (List.map rS b))))),(5,.pl (.one (.ref 2 []))),(6,.pl (.one (.ref 3 []))),(8,.pl (.one (.v (.sc (.int .i64 i))))),(9,.pl (.one (.v (.sc (.int .i64 j)))))],[(2,.list true 1 (List.map (rL true 1 (rK .i64)) x12)),(3,.list true 1 (List.map (rK .i64) out__2))]⟩) [0,1,5,6,8,9] [(2,2),(3,3)] 4 ⟨_,_,_,rfl,rfl⟩ ?_
   rintro s' _ ⟨i,j,out__2,rfl,rfl⟩ y1'
   change Tl _ (impl_align_l1 a b x12 i j out__2) _ _; unfold impl_align_l1
   refine sq ?_
   refine go ?_
   refine gc 5 (fun b_1 e'=>e'=⟨76,2,4,[(0,.pl (.one (.v (.list false 1 (List.map rS a))))),(1,.pl (.one (.v (.list false 1 (List.map rS b))))),(5,.pl (.one (.ref 2 []))),(6,.pl (.one (.ref 3 []))),(8,.pl (.one (.v (.sc (.int .i64 i))))),(9,.pl (.one (.v (.sc (.int .i64 j))))),(34,.pl (.one (.v (.sc (.bool b_1)))))],[(2,.list true 1 (List.map (rL true 1 (rK .i64)) x12)),(3,.list true 1 (List.map (rK .i64) out__2))]⟩) ?_ ?_
   ·intro p
    refine opsV_spL ?_ ?_
    ·refine go ?_
     exact ge [0,1,5,6,8,9,34] [(2,2),(3,3)] 4 rfl
    ·refine go ?_
     exact ge [0,1,5,6,8,9,34] [(2,2),(3,3)] 4 rfl
   ·rintro b_1 _ rfl
    refine go ?_
    refine sp ?_ ?_
    ·refine go ?_
     refine rq ?_
     refine go ?_; intro x v'
     refine go ?_; intro x_1 v'
     refine go ?_
     refine sp ?_ ?_
     ·refine go ?_; intro x_2 v'
      refine go ?_
      exact bk [0,1,5,6,8,9] [(2,2),(3,3)] 4 ⟨_,_,_,rfl,rfl⟩
     ·refine go ?_
      refine rq ?_
      refine go ?_; intro x_3 v'
      refine go ?_; intro x_4 v'
      refine go ?_; intro x_5 v'
      refine go ?_; intro x_6 v'
      refine go ?_
      refine sp ?_ ?_
      ·refine go ?_
       exact bk [0,1,5,6,8,9] [(2,2),(3,3)] 4 ⟨_,_,_,rfl,rfl⟩
      ·refine go ?_
       exact bk [0,1,5,6,8,9] [(2,2),(3,3)] 4 ⟨_,_,_,rfl,rfl⟩
    ·refine go ?_
     exact je [6] [(3,2)] 3 fun h=>⟨_,h,rfl⟩
  ·rintro e' ⟨out__1,h,rfl⟩; refine tl h ?_; unfold impl_align_j2
   exact gz
instance W_slices_Index_int_int:∀ s v,Wlk X (slices_Index_int_int s v) 154 [] [.one (.list false 1 (List.map (rK .i64) s)),.one (.sc (.int .i64 v))] (fun r'=>[.one (.sc (.int .i64 r'))]) (fun r'=>[]):=fun s v=>by
 refine ws f154 19 [.tmp 4] (h2 t3 (h2 t43 R_i64)) ?_
 intro r'; unfold slices_Index_int_int
 refine go ?_
 refine jn (fun e'=>slices_Index_int_int_j1=some r'∧e'=⟨19,2,2,[],[]⟩) ?_ ?_
 ·refine go ?_
  refine lp (fun x8 e'=>e'=⟨19,2,2,[(0,.pl (.one (.v (.list false 1 (List.map (rK .i64) s))))),(1,.pl (.one (.v (.sc (.int .i64 v))))),(7,.pl (.one (.v (.sc (.int .i64 (s.length:Int)))))),(8,.pl (.one (.v (.sc (.int .i64 x8)))))],[]⟩) [0,1,7,8] [] 2 rfl ?_
  rintro x8 _ rfl y1'
  change Tl _ (slices_Index_int_int_l1 s v x8) _ _; unfold slices_Index_int_int_l1
  refine go ?_
  refine sq ?_
  refine go ?_
  refine sp ?_ ?_
  ·refine go ?_
   refine sq ?_
   refine go ?_; intro x v'
   refine go ?_
   refine sp ?_ ?_
   ·exact gz
   ·refine go ?_
    exact bk [0,1,7,8] [] 2 rfl
  ·refine go ?_
   exact je [] [] 2 fun h=>⟨h,rfl⟩
 ·rintro e' ⟨h,rfl⟩; refine tl h ?_; unfold slices_Index_int_int_j1
  exact gz
instance W_slices_Contains_int_int:∀ s v,Wlk X (slices_Contains_int_int s v) 126 [] [.one (.list false 1 (List.map (rK .i64) s)),.one (.sc (.int .i64 v))] (fun r'=>[.one (.sc (.bool r'))]) (fun r'=>[]):=fun s v=>by
 refine ws f126 9 [.tmp 4] (h2 t3 R_i64) ?_
 intro r'; unfold slices_Contains_int_int
 refine go ?_; intro x7
 exact gz
instance W_impl_Weave_insert:∀ w at_ line v,Wlk X (impl_Weave_insert w at_ line v) 133 [0] [.one (.box true [.list true 1 (List.map (rL true 1 (rK .i64)) w.Parents),.list true 4 (List.map (zA true) w.Bodies)]),.one (.sc (.int .i64 at_)),.one (.sc (.string line)),.one (.sc (.int .i64 v))] (fun r'=>[]) (fun r'=>[(0,.box true [.list true 1 (List.map (rL true 1 (rK .i64)) r'.Parents),.list true 4 (List.map (zA true) r'.Bodies)])]):=fun w at_ line v=>by
 refine ws f133 21 [] (h2 t3 (h2 t9 (h2 t31 (h2 t33 (h2 t43 (h2 t110 (h2 R_Li64 (h2 zP R_i64)))))))) ?_
 intro r'; unfold impl_Weave_insert
 refine go ?_; intro l v'
 refine oI t31 t110 insRaw157 ?_
 exact gz
end Go.TV.KFnBlends
