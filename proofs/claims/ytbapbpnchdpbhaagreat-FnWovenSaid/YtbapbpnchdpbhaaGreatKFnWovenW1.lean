/- Walks. -/
import Derived.Test.YtbapbpnchdpbhaaGreatKFnWovenE
import Derived.Test.YtbapbpnchdpbhaaGreatKFnWovenW0
set_option linter.unusedVariables false
set_option linter.unusedSimpArgs false
set_option maxHeartbeats 8000000
set_option maxRecDepth 100000
namespace Go.TV.KFnWoven
attribute [local irreducible] wpV opsV Does yZ yS RetL quV seqV Cy lpP cutP cutQ
open Go.Proofs.Tryz Go.TV.F
instance W_spec_l06Right:∀ c n,Wlk X (zR2 c n) 66 [0] [.one (.box true [.list false 1 (List.map (rK .u8) c.b),.sc (.int .i64 c.i),.sc (.int .i64 c.h)]),.one (.sc (.int .i64 n))] (fun r'=>[.agg [.list true 1 (List.map (rL true 1 (rK .i64)) r'.1.Parents),.list true 4 (List.map (zA true) r'.1.Bodies)]]) (fun r'=>[(0,.box true [.list false 1 (List.map (rK .u8) r'.2.b),.sc (.int .i64 r'.2.i),.sc (.int .i64 r'.2.h)])]):=fun c n=>by
 refine ws f66 53 [.cell 4 27] (h2 t3 (h2 t9 (h2 t24 (h2 t25 (h2 t27 (h2 t36 (h2 jF (h2 zL (h2 qM (h2 R_s R_u8)))))))))) ?_
 intro r'; unfold zR2
 refine go ?_
 refine l1 ?_
 refine go ?_
 refine l1 ?_
 refine go ?_
 refine jn (fun e'=>∃ c_1 c_2 c_3 w w_1,zZ5 c_1 c_2 c_3 w w_1=some r'∧e'=⟨53,2,4,[(4,.pl (.one (.ref 2 []))),(5,.pl (.one (.ref 3 [])))],[(0,.box true [.list false 1 (List.map (rK .u8) c_1),.sc (.int .i64 c_2),.sc (.int .i64 c_3)]),(2,.box true [.list true 1 (List.map (rL true 1 (rK .i64)) []),.list true 4 (List.map (zA true) [])]),(3,.box true [.list true 1 (List.map (rL true 1 (rK .i64)) w),.list true 4 (List.map (zA true) w_1)])]⟩) ?_ ?_
 ·refine go ?_
  refine lp (fun s' e'=>∃ v c_4 c_5 c_6 w_2 w_3,s'=(v,c_4,c_5,c_6,w_2,w_3)∧e'=⟨53,2,4,[(0,.pl (.one (.ref 0 []))),(1,.pl (.one (.v (.sc (.int .i64 n))))),(4,.pl (.one (.ref 2 []))),(5,.pl (.one (.ref 3 []))),(6,.pl (.one (.v (.sc (.int .i64 v)))))],[(0,.box true [.list false 1 (List.map (rK .u8) c_4),.sc (.int .i64 c_5),.sc (.int .i64 c_6)]),(2,.box true [.list true 1 (List.map (rL true 1 (rK .i64)) []),.list true 4 (List.map (zA true) [])]),(3,.box true [.list true 1 (List.map (rL true 1 (rK .i64)) w_2),.list true 4 (List.map (zA true) w_3)])]⟩) [0,1,4,5,6] [(0,0),(2,2),(3,3)] 4 ⟨_,_,_,_,_,_,rfl,rfl⟩ ?_
  rintro s' _ ⟨v,c_4,c_5,c_6,w_2,w_3,rfl,rfl⟩ y1'
  change Tl _ (zH5 n v c_4 c_5 c_6 w_2 w_3) _ _; unfold zH5
  refine sq ?_
  refine go ?_
  refine sp ?_ ?_
  ·refine go ?_
   refine sq ?_
   refine go ?_; intro x20
   refine go ?_
   refine bx ?_; intro x25 hy_x25
   refine bx ?_; intro x26 hy_x26
   refine bx ?_; intro x27 hy_x27
   refine jr (fun e'=>e'=⟨53,2,6,[(0,.pl (.one (.ref 0 []))),(1,.pl (.one (.v (.sc (.int .i64 n))))),(4,.pl (.one (.ref 2 []))),(5,.pl (.one (.ref 3 []))),(6,.pl (.one (.v (.sc (.int .i64 v))))),(7,.pl (.one (.ref 4 []))),(8,.pl (.one (.ref 5 [])))],[(0,.box true [.list false 1 (List.map (rK .u8) x27.2.b),.sc (.int .i64 x27.2.i),.sc (.int .i64 x27.2.h)]),(2,.box true [.list true 1 (List.map (rL true 1 (rK .i64)) []),.list true 4 (List.map (zA true) [])]),(3,.box true [.list true 1 (List.map (rL true 1 (rK .i64)) w_2),.list true 4 (List.map (zA true) w_3)]),(4,.list true 1 (List.map (rK .i64) x20.1)),(5,.list true 1 (List.map rS x27.1))]⟩) ?_ ?_
   ·refine t0 fun H'=>?_
    refine regAnyF [] ?_
    refine (?_:anyF X ?o0 _ _ ?P0 _)
    have d0':anyF X ?o0 [0,1,2,3,4,5,6,7] [] ?P0 ⟨53,2,6,[(0,.pl (.one (.ref 0 []))),(1,.pl (.one (.v (.sc (.int .i64 n))))),(4,.pl (.one (.ref 2 []))),(5,.pl (.one (.ref 3 []))),(6,.pl (.one (.v (.sc (.int .i64 v))))),(7,.pl (.one (.ref 4 []))),(8,.pl (.one (.ref 5 [])))],[(0,.box true [.list false 1 (List.map (rK .u8) x27.2.b),.sc (.int .i64 x27.2.i),.sc (.int .i64 x27.2.h)]),(2,.box true [.list true 1 (List.map (rL true 1 (rK .i64)) []),.list true 4 (List.map (zA true) [])]),(3,.box true [.list true 1 (List.map (rL true 1 (rK .i64)) w_2),.list true 4 (List.map (zA true) w_3)]),(4,.list true 1 (List.map (rK .i64) x20.1)),(5,.list true 1 (List.map rS x27.1))]⟩:=by
     refine fend (e2:=⟨53,2,6,[(0,.pl (.one (.ref 0 []))),(1,.pl (.one (.v (.sc (.int .i64 n))))),(4,.pl (.one (.ref 2 []))),(5,.pl (.one (.ref 3 []))),(6,.pl (.one (.v (.sc (.int .i64 v))))),(7,.pl (.one (.ref 4 []))),(8,.pl (.one (.ref 5 [])))],[(0,.box true [.list false 1 (List.map (rK .u8) x27.2.b),.sc (.int .i64 x27.2.i),.sc (.int .i64 x27.2.h)]),(2,.box true [.list true 1 (List.map (rL true 1 (rK .i64)) []),.list true 4 (List.map (zA true) [])]),(3,.box true [.list true 1 (List.map (rL true 1 (rK .i64)) w_2),.list true 4 (List.map (zA true) w_3)]),(4,.list true 1 (List.map (rK .i64) x20.1)),(5,.list true 1 (List.map rS x27.1))]⟩) [] [] [] [] trivial (cpN (shd [0,1,4,5,6,7,8] [(0,0),(2,2),(3,3),(4,4),(5,5)] 6 rfl))
    have d1':anyF X ?o0 [0,1,2,3,4,5,6] [] ?P0 ⟨53,2,6,[(0,.pl (.one (.ref 0 []))),(1,.pl (.one (.v (.sc (.int .i64 n))))),(4,.pl (.one (.ref 2 []))),(5,.pl (.one (.ref 3 []))),(6,.pl (.one (.v (.sc (.int .i64 v))))),(7,.pl (.one (.ref 4 []))),(27,.pl (.one (.ref 5 [])))],[(0,.box true [.list false 1 (List.map (rK .u8) x27.2.b),.sc (.int .i64 x27.2.i),.sc (.int .i64 x27.2.h)]),(2,.box true [.list true 1 (List.map (rL true 1 (rK .i64)) []),.list true 4 (List.map (zA true) [])]),(3,.box true [.list true 1 (List.map (rL true 1 (rK .i64)) w_2),.list true 4 (List.map (zA true) w_3)]),(4,.list true 1 (List.map (rK .i64) x20.1)),(5,.list true 1 (List.map rS x27.1))]⟩:=by
     refine fnode [] [.m 7 [] [0,1,2,3,4,5,6,7] []] [] [(7,false,[],[0,1,2,3,4,5,6,7])] ⟨?_,trivial⟩
     ·refine obMx ⟨53,2,6,[(0,.pl (.one (.ref 0 []))),(1,.pl (.one (.v (.sc (.int .i64 n))))),(4,.pl (.one (.ref 2 []))),(5,.pl (.one (.ref 3 []))),(6,.pl (.one (.v (.sc (.int .i64 v))))),(7,.pl (.one (.ref 4 []))),(27,.pl (.one (.ref 5 [])))],[(0,.box true [.list false 1 (List.map (rK .u8) x27.2.b),.sc (.int .i64 x27.2.i),.sc (.int .i64 x27.2.h)]),(2,.box true [.list true 1 (List.map (rL true 1 (rK .i64)) []),.list true 4 (List.map (zA true) [])]),(3,.box true [.list true 1 (List.map (rL true 1 (rK .i64)) w_2),.list true 4 (List.map (zA true) w_3)]),(4,.list true 1 (List.map (rK .i64) x20.1)),(5,.list true 1 (List.map rS x27.1))]⟩ ?_
      refine ops H' ?_
      refine yM ⟨rfl,.inl ⟨rfl,?_⟩⟩
      exact zN0 [0,1,4,5,6,7,8] [(0,0),(2,2),(3,3),(4,4),(5,5)] 6 d0'
    have d2':anyF X ?o0 [0,1,2,3,4,5] [] ?P0 ⟨53,2,6,[(0,.pl (.one (.ref 0 []))),(1,.pl (.one (.v (.sc (.int .i64 n))))),(4,.pl (.one (.ref 2 []))),(5,.pl (.one (.ref 3 []))),(6,.pl (.one (.v (.sc (.int .i64 v))))),(7,.pl (.one (.ref 4 []))),(21,.pl (.one (.ref 0 []))),(26,.pl (.one (.ref 5 [])))],[(0,.box true [.list false 1 (List.map (rK .u8) x20.2.b),.sc (.int .i64 x20.2.i),.sc (.int .i64 x20.2.h)]),(2,.box true [.list true 1 (List.map (rL true 1 (rK .i64)) []),.list true 4 (List.map (zA true) [])]),(3,.box true [.list true 1 (List.map (rL true 1 (rK .i64)) w_2),.list true 4 (List.map (zA true) w_3)]),(4,.list true 1 (List.map (rK .i64) x20.1)),(5,.list true 1 (List.map rS x26))]⟩:=by
     refine fnode [] [.m 6 [] [0,1,2,3,4,5,6] []] [] [(6,false,[],[0,1,2,3,4,5,6])] ⟨?_,trivial⟩
     ·refine obMx ⟨53,2,6,[(0,.pl (.one (.ref 0 []))),(1,.pl (.one (.v (.sc (.int .i64 n))))),(4,.pl (.one (.ref 2 []))),(5,.pl (.one (.ref 3 []))),(6,.pl (.one (.v (.sc (.int .i64 v))))),(7,.pl (.one (.ref 4 []))),(21,.pl (.one (.ref 0 []))),(26,.pl (.one (.ref 5 [])))],[(0,.box true [.list false 1 (List.map (rK .u8) x20.2.b),.sc (.int .i64 x20.2.i),.sc (.int .i64 x20.2.h)]),(2,.box true [.list true 1 (List.map (rL true 1 (rK .i64)) []),.list true 4 (List.map (zA true) [])]),(3,.box true [.list true 1 (List.map (rL true 1 (rK .i64)) w_2),.list true 4 (List.map (zA true) w_3)]),(4,.list true 1 (List.map (rK .i64) x20.1)),(5,.list true 1 (List.map rS x26))]⟩ ?_
      refine opsV_frz H' 5 ?_
      refine callGD H' (fun _=>[0]) ((W_spec_l04Near _ _).w _ hy_x27) ?_
      refine yM ⟨rfl,.inl ⟨rfl,?_⟩⟩
      exact zN0 [0,1,4,5,6,7,27] [(0,0),(2,2),(3,3),(4,4),(6,5)] 6 d1'
    have d3':anyF X ?o0 [0,1,2,3,4] [] ?P0 ⟨53,2,6,[(0,.pl (.one (.ref 0 []))),(1,.pl (.one (.v (.sc (.int .i64 n))))),(4,.pl (.one (.ref 2 []))),(5,.pl (.one (.ref 3 []))),(6,.pl (.one (.v (.sc (.int .i64 v))))),(7,.pl (.one (.ref 4 []))),(21,.pl (.one (.ref 0 []))),(22,.pl (.agg [.ref 3 [(0,0,0)],.ref 3 [(0,0,1)]])),(25,.pl (.one (.ref 5 [])))],[(0,.box true [.list false 1 (List.map (rK .u8) x20.2.b),.sc (.int .i64 x20.2.i),.sc (.int .i64 x20.2.h)]),(2,.box true [.list true 1 (List.map (rL true 1 (rK .i64)) []),.list true 4 (List.map (zA true) [])]),(3,.box true [.list true 1 (List.map (rL true 1 (rK .i64)) w_2),.list true 4 (List.map (zA true) w_3)]),(4,.list true 1 (List.map (rK .i64) x20.1)),(5,.list true 1 (List.map (rK .i64) x25))]⟩:=by
     refine fnode [] [.m 5 [] [0,1,2,3,4,5] []] [] [(5,false,[],[0,1,2,3,4,5])] ⟨?_,trivial⟩
     ·refine obMx ⟨53,2,6,[(0,.pl (.one (.ref 0 []))),(1,.pl (.one (.v (.sc (.int .i64 n))))),(4,.pl (.one (.ref 2 []))),(5,.pl (.one (.ref 3 []))),(6,.pl (.one (.v (.sc (.int .i64 v))))),(7,.pl (.one (.ref 4 []))),(21,.pl (.one (.ref 0 []))),(22,.pl (.agg [.ref 3 [(0,0,0)],.ref 3 [(0,0,1)]])),(25,.pl (.one (.ref 5 [])))],[(0,.box true [.list false 1 (List.map (rK .u8) x20.2.b),.sc (.int .i64 x20.2.i),.sc (.int .i64 x20.2.h)]),(2,.box true [.list true 1 (List.map (rL true 1 (rK .i64)) []),.list true 4 (List.map (zA true) [])]),(3,.box true [.list true 1 (List.map (rL true 1 (rK .i64)) w_2),.list true 4 (List.map (zA true) w_3)]),(4,.list true 1 (List.map (rK .i64) x20.1)),(5,.list true 1 (List.map (rK .i64) x25))]⟩ ?_
      refine callG H' (fun _=>[]) ((W_spec_l06Lines _ _).w _ hy_x26) ?_
      refine yM ⟨rfl,.inl ⟨rfl,?_⟩⟩
      exact zN0 [0,1,4,5,6,7,21,26] [(0,0),(2,2),(3,3),(4,4),(6,5)] 6 d2'
    have d4':anyF X ?o0 [0,1,2,3] [] ?P0 ⟨53,2,5,[(0,.pl (.one (.ref 0 []))),(1,.pl (.one (.v (.sc (.int .i64 n))))),(4,.pl (.one (.ref 2 []))),(5,.pl (.one (.ref 3 []))),(6,.pl (.one (.v (.sc (.int .i64 v))))),(7,.pl (.one (.ref 4 []))),(21,.pl (.one (.ref 0 []))),(22,.pl (.agg [.ref 3 [(0,0,0)],.ref 3 [(0,0,1)]])),(23,.pl (.agg [.ref 3 [(0,0,0)],.ref 3 [(0,0,1)]])),(24,.pl (.one (.ref 4 [])))],[(0,.box true [.list false 1 (List.map (rK .u8) x20.2.b),.sc (.int .i64 x20.2.i),.sc (.int .i64 x20.2.h)]),(2,.box true [.list true 1 (List.map (rL true 1 (rK .i64)) []),.list true 4 (List.map (zA true) [])]),(3,.box true [.list true 1 (List.map (rL true 1 (rK .i64)) w_2),.list true 4 (List.map (zA true) w_3)]),(4,.list true 1 (List.map (rK .i64) x20.1))]⟩:=by
     refine fnode [] [.m 4 [] [0,1,2,3,4] []] [] [(4,false,[],[0,1,2,3,4])] ⟨?_,trivial⟩
     ·refine obMx ⟨53,2,5,[(0,.pl (.one (.ref 0 []))),(1,.pl (.one (.v (.sc (.int .i64 n))))),(4,.pl (.one (.ref 2 []))),(5,.pl (.one (.ref 3 []))),(6,.pl (.one (.v (.sc (.int .i64 v))))),(7,.pl (.one (.ref 4 []))),(21,.pl (.one (.ref 0 []))),(22,.pl (.agg [.ref 3 [(0,0,0)],.ref 3 [(0,0,1)]])),(23,.pl (.agg [.ref 3 [(0,0,0)],.ref 3 [(0,0,1)]])),(24,.pl (.one (.ref 4 [])))],[(0,.box true [.list false 1 (List.map (rK .u8) x20.2.b),.sc (.int .i64 x20.2.i),.sc (.int .i64 x20.2.h)]),(2,.box true [.list true 1 (List.map (rL true 1 (rK .i64)) []),.list true 4 (List.map (zA true) [])]),(3,.box true [.list true 1 (List.map (rL true 1 (rK .i64)) w_2),.list true 4 (List.map (zA true) w_3)]),(4,.list true 1 (List.map (rK .i64) x20.1))]⟩ ?_
      refine callG H' (fun _=>[]) ((W_spec_l06Seen _ _).w _ hy_x25) ?_
      refine yM ⟨rfl,.inl ⟨rfl,?_⟩⟩
      exact zN0 [0,1,4,5,6,7,21,22,25] [(0,0),(2,2),(3,3),(4,4),(5,5)] 6 d3'
    have d5':anyF X ?o0 [0,1,3] [] ?P0 ⟨53,2,5,[(0,.pl (.one (.ref 0 []))),(1,.pl (.one (.v (.sc (.int .i64 n))))),(4,.pl (.one (.ref 2 []))),(5,.pl (.one (.ref 3 []))),(6,.pl (.one (.v (.sc (.int .i64 v))))),(7,.pl (.one (.ref 4 []))),(21,.pl (.one (.ref 0 []))),(22,.pl (.agg [.ref 3 [(0,0,0)],.ref 3 [(0,0,1)]])),(24,.pl (.one (.ref 4 [])))],[(0,.box true [.list false 1 (List.map (rK .u8) x20.2.b),.sc (.int .i64 x20.2.i),.sc (.int .i64 x20.2.h)]),(2,.box true [.list true 1 (List.map (rL true 1 (rK .i64)) []),.list true 4 (List.map (zA true) [])]),(3,.box true [.list true 1 (List.map (rL true 1 (rK .i64)) w_2),.list true 4 (List.map (zA true) w_3)]),(4,.list true 1 (List.map (rK .i64) x20.1))]⟩:=by
     refine fnode [] [.m 2 [] [0,1,2,3] []] [] [(2,false,[],[0,1,2,3])] ⟨?_,trivial⟩
     ·refine obMx ⟨53,2,5,[(0,.pl (.one (.ref 0 []))),(1,.pl (.one (.v (.sc (.int .i64 n))))),(4,.pl (.one (.ref 2 []))),(5,.pl (.one (.ref 3 []))),(6,.pl (.one (.v (.sc (.int .i64 v))))),(7,.pl (.one (.ref 4 []))),(21,.pl (.one (.ref 0 []))),(22,.pl (.agg [.ref 3 [(0,0,0)],.ref 3 [(0,0,1)]])),(24,.pl (.one (.ref 4 [])))],[(0,.box true [.list false 1 (List.map (rK .u8) x20.2.b),.sc (.int .i64 x20.2.i),.sc (.int .i64 x20.2.h)]),(2,.box true [.list true 1 (List.map (rL true 1 (rK .i64)) []),.list true 4 (List.map (zA true) [])]),(3,.box true [.list true 1 (List.map (rL true 1 (rK .i64)) w_2),.list true 4 (List.map (zA true) w_3)]),(4,.list true 1 (List.map (rK .i64) x20.1))]⟩ ?_
      refine ops H' ?_
      refine yM ⟨rfl,.inl ⟨rfl,?_⟩⟩
      exact zN0 [0,1,4,5,6,7,21,22,23,24] [(0,0),(2,2),(3,3),(4,4)] 5 d4'
    have d6':anyF X ?o0 [0,2,3,4] [] ?P0 ⟨53,2,6,[(0,.pl (.one (.ref 0 []))),(1,.pl (.one (.v (.sc (.int .i64 n))))),(4,.pl (.one (.ref 2 []))),(5,.pl (.one (.ref 3 []))),(6,.pl (.one (.v (.sc (.int .i64 v))))),(7,.pl (.one (.ref 4 []))),(21,.pl (.one (.ref 0 []))),(25,.pl (.one (.ref 5 [])))],[(0,.box true [.list false 1 (List.map (rK .u8) x20.2.b),.sc (.int .i64 x20.2.i),.sc (.int .i64 x20.2.h)]),(2,.box true [.list true 1 (List.map (rL true 1 (rK .i64)) []),.list true 4 (List.map (zA true) [])]),(3,.box true [.list true 1 (List.map (rL true 1 (rK .i64)) w_2),.list true 4 (List.map (zA true) w_3)]),(4,.list true 1 (List.map (rK .i64) x20.1)),(5,.list true 1 (List.map (rK .i64) x25))]⟩:=by
     refine fnode [] [.m 1 [] [0,1,2,3,4] []] [] [(1,false,[],[0,1,2,3,4])] ⟨?_,trivial⟩
     ·refine obMx ⟨53,2,6,[(0,.pl (.one (.ref 0 []))),(1,.pl (.one (.v (.sc (.int .i64 n))))),(4,.pl (.one (.ref 2 []))),(5,.pl (.one (.ref 3 []))),(6,.pl (.one (.v (.sc (.int .i64 v))))),(7,.pl (.one (.ref 4 []))),(21,.pl (.one (.ref 0 []))),(25,.pl (.one (.ref 5 [])))],[(0,.box true [.list false 1 (List.map (rK .u8) x20.2.b),.sc (.int .i64 x20.2.i),.sc (.int .i64 x20.2.h)]),(2,.box true [.list true 1 (List.map (rL true 1 (rK .i64)) []),.list true 4 (List.map (zA true) [])]),(3,.box true [.list true 1 (List.map (rL true 1 (rK .i64)) w_2),.list true 4 (List.map (zA true) w_3)]),(4,.list true 1 (List.map (rK .i64) x20.1)),(5,.list true 1 (List.map (rK .i64) x25))]⟩ ?_
      refine ops H' ?_
      refine yM ⟨rfl,.inl ⟨rfl,?_⟩⟩
      exact zN0 [0,1,4,5,6,7,21,22,25] [(0,0),(2,2),(3,3),(4,4),(5,5)] 6 d3'
    have d7':anyF X ?o0 [0,2,3] [] ?P0 ⟨53,2,5,[(0,.pl (.one (.ref 0 []))),(1,.pl (.one (.v (.sc (.int .i64 n))))),(4,.pl (.one (.ref 2 []))),(5,.pl (.one (.ref 3 []))),(6,.pl (.one (.v (.sc (.int .i64 v))))),(7,.pl (.one (.ref 4 []))),(21,.pl (.one (.ref 0 []))),(23,.pl (.agg [.ref 3 [(0,0,0)],.ref 3 [(0,0,1)]])),(24,.pl (.one (.ref 4 [])))],[(0,.box true [.list false 1 (List.map (rK .u8) x20.2.b),.sc (.int .i64 x20.2.i),.sc (.int .i64 x20.2.h)]),(2,.box true [.list true 1 (List.map (rL true 1 (rK .i64)) []),.list true 4 (List.map (zA true) [])]),(3,.box true [.list true 1 (List.map (rL true 1 (rK .i64)) w_2),.list true 4 (List.map (zA true) w_3)]),(4,.list true 1 (List.map (rK .i64) x20.1))]⟩:=by
     refine fnode [] [.m 1 [] [0,1,2,3] [],.m 4 [] [0,2,3,4] []] [] [(1,false,[],[0,1,2,3]),(4,false,[],[0,2,3,4])] ⟨?_,?_,trivial⟩
     ·refine obMx ⟨53,2,5,[(0,.pl (.one (.ref 0 []))),(1,.pl (.one (.v (.sc (.int .i64 n))))),(4,.pl (.one (.ref 2 []))),(5,.pl (.one (.ref 3 []))),(6,.pl (.one (.v (.sc (.int .i64 v))))),(7,.pl (.one (.ref 4 []))),(21,.pl (.one (.ref 0 []))),(23,.pl (.agg [.ref 3 [(0,0,0)],.ref 3 [(0,0,1)]])),(24,.pl (.one (.ref 4 [])))],[(0,.box true [.list false 1 (List.map (rK .u8) x20.2.b),.sc (.int .i64 x20.2.i),.sc (.int .i64 x20.2.h)]),(2,.box true [.list true 1 (List.map (rL true 1 (rK .i64)) []),.list true 4 (List.map (zA true) [])]),(3,.box true [.list true 1 (List.map (rL true 1 (rK .i64)) w_2),.list true 4 (List.map (zA true) w_3)]),(4,.list true 1 (List.map (rK .i64) x20.1))]⟩ ?_
      refine ops H' ?_
      refine yM ⟨rfl,.inl ⟨rfl,?_⟩⟩
      exact zN0 [0,1,4,5,6,7,21,22,23,24] [(0,0),(2,2),(3,3),(4,4)] 5 d4'
     ·refine obMx ⟨53,2,5,[(0,.pl (.one (.ref 0 []))),(1,.pl (.one (.v (.sc (.int .i64 n))))),(4,.pl (.one (.ref 2 []))),(5,.pl (.one (.ref 3 []))),(6,.pl (.one (.v (.sc (.int .i64 v))))),(7,.pl (.one (.ref 4 []))),(21,.pl (.one (.ref 0 []))),(23,.pl (.agg [.ref 3 [(0,0,0)],.ref 3 [(0,0,1)]])),(24,.pl (.one (.ref 4 [])))],[(0,.box true [.list false 1 (List.map (rK .u8) x20.2.b),.sc (.int .i64 x20.2.i),.sc (.int .i64 x20.2.h)]),(2,.box true [.list true 1 (List.map (rL true 1 (rK .i64)) []),.list true 4 (List.map (zA true) [])]),(3,.box true [.list true 1 (List.map (rL true 1 (rK .i64)) w_2),.list true 4 (List.map (zA true) w_3)]),(4,.list true 1 (List.map (rK .i64) x20.1))]⟩ ?_
      refine callG H' (fun _=>[]) ((W_spec_l06Seen _ _).w _ hy_x25) ?_
      refine yM ⟨rfl,.inl ⟨rfl,?_⟩⟩
      exact zN0 [0,1,4,5,6,7,21,25] [(0,0),(2,2),(3,3),(4,4),(5,5)] 6 d6'
    have d8':anyF X ?o0 [0,3] [] ?P0 ⟨53,2,5,[(0,.pl (.one (.ref 0 []))),(1,.pl (.one (.v (.sc (.int .i64 n))))),(4,.pl (.one (.ref 2 []))),(5,.pl (.one (.ref 3 []))),(6,.pl (.one (.v (.sc (.int .i64 v))))),(7,.pl (.one (.ref 4 []))),(21,.pl (.one (.ref 0 []))),(24,.pl (.one (.ref 4 [])))],[(0,.box true [.list false 1 (List.map (rK .u8) x20.2.b),.sc (.int .i64 x20.2.i),.sc (.int .i64 x20.2.h)]),(2,.box true [.list true 1 (List.map (rL true 1 (rK .i64)) []),.list true 4 (List.map (zA true) [])]),(3,.box true [.list true 1 (List.map (rL true 1 (rK .i64)) w_2),.list true 4 (List.map (zA true) w_3)]),(4,.list true 1 (List.map (rK .i64) x20.1))]⟩:=by
     refine fnode [] [.m 1 [] [0,1,3] [],.m 2 [] [0,2,3] []] [] [(1,false,[],[0,1,3]),(2,false,[],[0,2,3])] ⟨?_,?_,trivial⟩
     ·refine obMx ⟨53,2,5,[(0,.pl (.one (.ref 0 []))),(1,.pl (.one (.v (.sc (.int .i64 n))))),(4,.pl (.one (.ref 2 []))),(5,.pl (.one (.ref 3 []))),(6,.pl (.one (.v (.sc (.int .i64 v))))),(7,.pl (.one (.ref 4 []))),(21,.pl (.one (.ref 0 []))),(24,.pl (.one (.ref 4 [])))],[(0,.box true [.list false 1 (List.map (rK .u8) x20.2.b),.sc (.int .i64 x20.2.i),.sc (.int .i64 x20.2.h)]),(2,.box true [.list true 1 (List.map (rL true 1 (rK .i64)) []),.list true 4 (List.map (zA true) [])]),(3,.box true [.list true 1 (List.map (rL true 1 (rK .i64)) w_2),.list true 4 (List.map (zA true) w_3)]),(4,.list true 1 (List.map (rK .i64) x20.1))]⟩ ?_
      refine ops H' ?_
      refine yM ⟨rfl,.inl ⟨rfl,?_⟩⟩
      exact zN0 [0,1,4,5,6,7,21,22,24] [(0,0),(2,2),(3,3),(4,4)] 5 d5'
     ·refine obMx ⟨53,2,5,[(0,.pl (.one (.ref 0 []))),(1,.pl (.one (.v (.sc (.int .i64 n))))),(4,.pl (.one (.ref 2 []))),(5,.pl (.one (.ref 3 []))),(6,.pl (.one (.v (.sc (.int .i64 v))))),(7,.pl (.one (.ref 4 []))),(21,.pl (.one (.ref 0 []))),(24,.pl (.one (.ref 4 [])))],[(0,.box true [.list false 1 (List.map (rK .u8) x20.2.b),.sc (.int .i64 x20.2.i),.sc (.int .i64 x20.2.h)]),(2,.box true [.list true 1 (List.map (rL true 1 (rK .i64)) []),.list true 4 (List.map (zA true) [])]),(3,.box true [.list true 1 (List.map (rL true 1 (rK .i64)) w_2),.list true 4 (List.map (zA true) w_3)]),(4,.list true 1 (List.map (rK .i64) x20.1))]⟩ ?_
      refine ops H' ?_
      refine yM ⟨rfl,.inl ⟨rfl,?_⟩⟩
      exact zN0 [0,1,4,5,6,7,21,23,24] [(0,0),(2,2),(3,3),(4,4)] 5 d7'
    refine fpure H' 0 [0] [] ?_
    refine fpure H' 3 [0,3] [] ?_
    exact zN0 [0,1,4,5,6,7,21,24] [(0,0),(2,2),(3,3),(4,4)] 5 d8'
   ·rintro e' rfl; refine cn ?_
    refine jn (fun e'=>∃ c_7 c_8 c_9 lines,zB8 v w_2 w_3 x20 c_7 c_8 c_9 lines=some y1'∧e'=⟨53,2,6,[(0,.pl (.one (.ref 0 []))),(1,.pl (.one (.v (.sc (.int .i64 n))))),(4,.pl (.one (.ref 2 []))),(5,.pl (.one (.ref 3 []))),(6,.pl (.one (.v (.sc (.int .i64 v))))),(7,.pl (.one (.ref 4 []))),(8,.pl (.one (.ref 5 [])))],[(0,.box true [.list false 1 (List.map (rK .u8) c_7),.sc (.int .i64 c_8),.sc (.int .i64 c_9)]),(2,.box true [.list true 1 (List.map (rL true 1 (rK .i64)) []),.list true 4 (List.map (zA true) [])]),(3,.box true [.list true 1 (List.map (rL true 1 (rK .i64)) w_2),.list true 4 (List.map (zA true) w_3)]),(4,.list true 1 (List.map (rK .i64) x20.1)),(5,.list true 1 (List.map rS lines))]⟩) ?_ ?_
    ·refine go ?_
     refine gc 3 (fun b e'=>e'=⟨53,2,6,[(0,.pl (.one (.ref 0 []))),(1,.pl (.one (.v (.sc (.int .i64 n))))),(4,.pl (.one (.ref 2 []))),(5,.pl (.one (.ref 3 []))),(6,.pl (.one (.v (.sc (.int .i64 v))))),(7,.pl (.one (.ref 4 []))),(8,.pl (.one (.ref 5 []))),(33,.pl (.one (.v (.sc (.bool b.1)))))],[(0,.box true [.list false 1 (List.map (rK .u8) b.2.1),.sc (.int .i64 b.2.2.1),.sc (.int .i64 b.2.2.2)]),(2,.box true [.list true 1 (List.map (rL true 1 (rK .i64)) []),.list true 4 (List.map (zA true) [])]),(3,.box true [.list true 1 (List.map (rL true 1 (rK .i64)) w_2),.list true 4 (List.map (zA true) w_3)]),(4,.list true 1 (List.map (rK .i64) x20.1)),(5,.list true 1 (List.map rS x27.1))]⟩) ?_ ?_
     ·intro p
      refine xG ?_ ?_
      ·refine go ?_
       exact ge [0,1,4,5,6,7,8,33] [(0,0),(2,2),(3,3),(4,4),(5,5)] 6 rfl
      ·refine go ?_; intro x32
       refine go ?_
       exact ge [0,1,4,5,6,7,8,33] [(0,0),(2,2),(3,3),(4,4),(5,5)] 6 rfl
     ·rintro b _ rfl
      refine go ?_
      refine sp ?_ ?_
      ·refine go ?_; intro x35
       refine go ?_
       exact je [0,1,4,5,6,7,8] [(0,0),(2,2),(3,3),(4,4),(6,5)] 6 fun h=>⟨_,_,_,_,h,rfl⟩
      ·refine go ?_
       exact je [0,1,4,5,6,7,8] [(0,0),(2,2),(3,3),(4,4),(5,5)] 6 fun h=>⟨_,_,_,_,h,rfl⟩
    ·rintro e' ⟨c_7,c_8,c_9,lines,h,rfl⟩; refine tl h ?_; unfold zB8
     refine jn (fun e'=>∃ lines_1,zB9 v w_2 w_3 x20 c_7 c_8 c_9 lines_1=some y1'∧e'=⟨53,2,6,[(0,.pl (.one (.ref 0 []))),(1,.pl (.one (.v (.sc (.int .i64 n))))),(4,.pl (.one (.ref 2 []))),(5,.pl (.one (.ref 3 []))),(6,.pl (.one (.v (.sc (.int .i64 v))))),(7,.pl (.one (.ref 4 []))),(8,.pl (.one (.ref 5 [])))],[(0,.box true [.list false 1 (List.map (rK .u8) c_7),.sc (.int .i64 c_8),.sc (.int .i64 c_9)]),(2,.box true [.list true 1 (List.map (rL true 1 (rK .i64)) []),.list true 4 (List.map (zA true) [])]),(3,.box true [.list true 1 (List.map (rL true 1 (rK .i64)) w_2),.list true 4 (List.map (zA true) w_3)]),(4,.list true 1 (List.map (rK .i64) x20.1)),(5,.list true 1 (List.map rS lines_1))]⟩) ?_ ?_
     ·refine go ?_
      refine sp ?_ ?_
      ·refine go ?_; intro x40 v'
       refine go ?_
       refine lf ?_ (fun a g=>opsV_cutO a g)
       refine go ?_
       exact je [0,1,4,5,6,7,8] [(0,0),(2,2),(3,3),(4,4),(6,5)] 6 fun h=>⟨_,h,rfl⟩
      ·refine go ?_
       exact je [0,1,4,5,6,7,8] [(0,0),(2,2),(3,3),(4,4),(5,5)] 6 fun h=>⟨_,h,rfl⟩
     ·rintro e' ⟨lines_1,h,rfl⟩; refine tl h ?_; unfold zB9
      refine go ?_; intro x45
      refine go ?_
      refine l1 ?_
      refine go ?_
      refine sp ?_ ?_
      ·refine go ?_
       exact bk [0,1,4,5,6] [(0,0),(2,2),(3,3)] 4 ⟨_,_,_,_,_,_,rfl,rfl⟩
      ·refine go ?_
       exact bk [0,1,4,5,6] [(0,0),(2,2),(3,3)] 4 ⟨_,_,_,_,_,_,rfl,rfl⟩
  ·refine go ?_
   exact je [4,5] [(0,0),(2,2),(3,3)] 4 fun h=>⟨_,_,_,_,_,h,rfl⟩
 ·rintro e' ⟨c_1,c_2,c_3,w,w_1,h,rfl⟩; refine tl h ?_; unfold zZ5
  exact gz
instance W_spec_DrawPair:∀ code,Wlk X (zI8 code) 14 [] [.one (.list false 1 (List.map (rK .u8) code))] (fun r'=>[.agg [.list true 1 (List.map (rL true 1 (rK .i64)) r'.1.Parents),.list true 4 (List.map (zA true) r'.1.Bodies)],.one (.sc (.int .i64 r'.2.1)),.one (.sc (.int .i64 r'.2.2))]) (fun r'=>[]):=fun code=>by
 refine ws f14 29 [.cell 2 27,.tmp 3,.tmp 4] (h2 t3 (h2 t24 (h2 t27 (h2 jF (h2 zL (h2 qM R_u8)))))) ?_
 intro r'; unfold zI8
 refine go ?_
 refine l1 ?_
 refine go ?_; intro x9
 refine go ?_; intro x13
 refine go ?_; intro x14
 refine go ?_; intro x16
 refine go ?_
 refine l1 ?_
 refine go ?_; intro x21
 refine go ?_
 refine rc [1,2,3,0,4,5,6,7,8,9] ?_
 refine go ?_; intro x28
 exact gz
instance W_impl_inRange:∀ n least most,Wlk X (wZ n least most) 142 [] [.one (.sc (.int .i64 n)),.one (.sc (.int .i64 least)),.one (.sc (.int .i64 most))] (fun r'=>[.one (.sc (.bool r'))]) (fun r'=>[]):=fun n least most=>by
 refine ws f142 15 [.tmp 6] t3 ?_
 intro r'; unfold wZ
 refine go ?_
 refine gc 4 (fun b e'=>e'=⟨15,3,3,[(14,.pl (.one (.v (.sc (.bool b)))))],[]⟩) ?_ ?_
 ·intro p
  refine kT ?_ ?_
  ·refine go ?_
   exact ge [14] [] 3 rfl
  ·refine go ?_
   exact ge [14] [] 3 rfl
 ·rintro b _ rfl
  exact gz
instance W_impl_ascends:∀ list_ below,Wlk X (zN7 list_ below) 182 [] [.one (.list false 1 (List.map (rK .i64) list_)),.one (.sc (.int .i64 below))] (fun r'=>[.one (.sc (.bool r'))]) (fun r'=>[]):=fun list_ below=>by
 refine ws f182 33 [.tmp 4] (h2 t3 (h2 t39 qM)) ?_
 intro r'; unfold zN7
 refine go ?_
 refine jn (fun e'=>qC2=some r'∧e'=⟨33,2,2,[],[]⟩) ?_ ?_
 ·refine go ?_
  refine lp (fun x9 e'=>e'=⟨33,2,2,[(0,.pl (.one (.v (.list false 1 (List.map (rK .i64) list_))))),(1,.pl (.one (.v (.sc (.int .i64 below))))),(7,.pl (.one (.v (.list false 1 (List.map (rK .i64) list_))))),(8,.pl (.one (.v (.sc (.int .i64 (list_.length:Int)))))),(9,.pl (.one (.v (.sc (.int .i64 x9)))))],[]⟩) [0,1,7,8,9] [] 2 rfl ?_
  rintro x9 _ rfl y1'
  change Tl _ (kH list_ below x9) _ _; unfold kH
  refine go ?_
  refine sq ?_
  refine go ?_
  refine sp ?_ ?_
  ·refine go ?_
   refine sq ?_
   refine go ?_; intro x v'
   refine go ?_; intro x17
   refine go ?_
   refine gc 12 (fun b e'=>e'=⟨33,2,2,[(0,.pl (.one (.v (.list false 1 (List.map (rK .i64) list_))))),(1,.pl (.one (.v (.sc (.int .i64 below))))),(7,.pl (.one (.v (.list false 1 (List.map (rK .i64) list_))))),(8,.pl (.one (.v (.sc (.int .i64 (list_.length:Int)))))),(9,.pl (.one (.v (.sc (.int .i64 x9))))),(31,.pl (.one (.v (.sc (.bool b)))))],[]⟩) ?_ ?_
   ·intro p
    refine xG ?_ ?_
    ·refine go ?_
     exact ge [0,1,7,8,9,31] [] 2 rfl
    ·refine go ?_
     refine gc 8 (fun b_1 e'=>e'=⟨33,2,2,[(0,.pl (.one (.v (.list false 1 (List.map (rK .i64) list_))))),(1,.pl (.one (.v (.sc (.int .i64 below))))),(7,.pl (.one (.v (.list false 1 (List.map (rK .i64) list_))))),(8,.pl (.one (.v (.sc (.int .i64 (list_.length:Int)))))),(9,.pl (.one (.v (.sc (.int .i64 x9))))),(19,.pl (.one (.v (.sc (.bool false))))),(20,.pl (.one (.v (.sc (.int .i64 x9))))),(21,.pl (.one (.v (.sc (.bool (decide (x9 > 0))))))),(30,.pl (.one (.v (.sc (.bool b_1)))))],[]⟩) ?_ ?_
     ·intro p
      refine kT ?_ ?_
      ·refine go ?_; intro x_1 v'
       refine go ?_
       exact ge [0,1,7,8,9,19,20,21,30] [] 2 rfl
      ·refine go ?_
       exact ge [0,1,7,8,9,19,20,21,30] [] 2 rfl
     ·rintro b_1 _ rfl
      refine go ?_
      exact ge [0,1,7,8,9,31] [] 2 rfl
   ·rintro b _ rfl
    refine go ?_
    refine sp ?_ ?_
    ·exact gz
    ·refine go ?_
     exact bk [0,1,7,8,9] [] 2 rfl
  ·refine go ?_
   exact je [] [] 2 fun h=>⟨h,rfl⟩
 ·rintro e' ⟨h,rfl⟩; refine tl h ?_; unfold qC2
  exact gz
instance W_impl_GraphOk:∀ parents,Wlk X (zO9 parents) 70 [] [.one (.list false 1 (List.map (rL false 1 (rK .i64)) parents))] (fun r'=>[.one (.sc (.bool r'))]) (fun r'=>[]):=fun parents=>by
 refine ws f70 25 [.tmp 2] (h2 t3 (h2 t24 (h2 t39 (h2 jF qM)))) ?_
 intro r'; unfold zO9
 refine go ?_
 refine jn (fun e'=>zS4 parents=some r'∧e'=⟨25,1,1,[(0,.pl (.one (.v (.list false 1 (List.map (rL false 1 (rK .i64)) parents)))))],[]⟩) ?_ ?_
 ·refine go ?_
  refine lp (fun x7 e'=>e'=⟨25,1,1,[(0,.pl (.one (.v (.list false 1 (List.map (rL false 1 (rK .i64)) parents))))),(5,.pl (.one (.v (.list false 1 (List.map (rL false 1 (rK .i64)) parents))))),(6,.pl (.one (.v (.sc (.int .i64 (parents.length:Int)))))),(7,.pl (.one (.v (.sc (.int .i64 x7)))))],[]⟩) [0,5,6,7] [] 1 rfl ?_
  rintro x7 _ rfl y1'
  change Tl _ (kF parents x7) _ _; unfold kF
  refine go ?_
  refine sq ?_
  refine go ?_
  refine sp ?_ ?_
  ·refine go ?_
   refine sq ?_
   refine go ?_; intro x v'
   refine go ?_
   refine gc 5 (fun b e'=>e'=⟨25,1,1,[(0,.pl (.one (.v (.list false 1 (List.map (rL false 1 (rK .i64)) parents))))),(5,.pl (.one (.v (.list false 1 (List.map (rL false 1 (rK .i64)) parents))))),(6,.pl (.one (.v (.sc (.int .i64 (parents.length:Int)))))),(7,.pl (.one (.v (.sc (.int .i64 x7))))),(20,.pl (.one (.v (.sc (.bool b)))))],[]⟩) ?_ ?_
   ·intro p
    refine xG ?_ ?_
    ·refine go ?_
     exact ge [0,5,6,7,20] [] 1 rfl
    ·refine go ?_; intro x18
     refine go ?_
     exact ge [0,5,6,7,20] [] 1 rfl
   ·rintro b _ rfl
    refine go ?_
    refine sp ?_ ?_
    ·exact gz
    ·refine go ?_
     exact bk [0,5,6,7] [] 1 rfl
  ·refine go ?_
   exact je [0] [] 1 fun h=>⟨h,rfl⟩
 ·rintro e' ⟨h,rfl⟩; refine tl h ?_; unfold zS4
  exact gz
instance W_impl_unionOf:∀ closed list_,Wlk X (zO3 closed list_) 189 [] [.one (.list false 1 (List.map (rK .u64) closed)),.one (.list false 1 (List.map (rK .i64) list_))] (fun r'=>[.one (.sc (.int .u64 r'))]) (fun r'=>[]):=fun closed list_=>by
 refine ws f189 22 [.tmp 4] (h2 t3 (h2 t39 (h2 t124 (h2 t125 (h2 qM R_u64))))) ?_
 intro r'; unfold zO3
 refine go ?_
 refine jn (fun e'=>∃ s,qE0 s=some r'∧e'=⟨22,2,2,[(5,.pl (.one (.v (.sc (.int .u64 s)))))],[]⟩) ?_ ?_
 ·refine go ?_
  refine lp (fun s' e'=>∃ s_1 x10,s'=(s_1,x10)∧e'=⟨22,2,2,[(0,.pl (.one (.v (.list false 1 (List.map (rK .u64) closed))))),(5,.pl (.one (.v (.sc (.int .u64 s_1))))),(8,.pl (.one (.v (.list false 1 (List.map (rK .i64) list_))))),(9,.pl (.one (.v (.sc (.int .i64 (list_.length:Int)))))),(10,.pl (.one (.v (.sc (.int .i64 x10)))))],[]⟩) [0,5,8,9,10] [] 2 ⟨_,_,rfl,rfl⟩ ?_
  rintro s' _ ⟨s_1,x10,rfl,rfl⟩ y1'
  change Tl _ (yP closed list_ s_1 x10) _ _; unfold yP
  refine go ?_
  refine sq ?_
  refine go ?_
  refine sp ?_ ?_
  ·refine go ?_
   refine sq ?_
   refine go ?_; intro x v'
   refine go ?_; intro x_1 v'
   refine go ?_
   exact bk [0,5,8,9,10] [] 2 ⟨_,_,rfl,rfl⟩
  ·refine go ?_
   exact je [5] [] 2 fun h=>⟨_,h,rfl⟩
 ·rintro e' ⟨s,h,rfl⟩; refine tl h ?_; unfold qE0
  exact gz
instance W_impl_closures:∀ parents,Wlk X (zJ2 parents) 78 [] [.one (.list false 1 (List.map (rL false 1 (rK .i64)) parents))] (fun r'=>[.one (.list true 1 (List.map (rK .u64) r'))]) (fun r'=>[]):=fun parents=>by
 refine ws f78 28 [.tmp 2] (h2 t3 (h2 t24 (h2 t39 (h2 t124 (h2 t125 (h2 t237 (h2 jF (h2 qM R_u64)))))))) ?_
 intro r'; unfold zJ2
 refine go ?_
 refine l1 ?_
 refine go ?_; intro x8 v'
 refine go ?_
 refine jn (fun e'=>∃ out_,zZ8 out_=some r'∧e'=⟨28,1,2,[(3,.pl (.one (.ref 1 [])))],[(1,.list true 1 (List.map (rK .u64) out_))]⟩) ?_ ?_
 ·refine go ?_
  refine lp (fun s' e'=>∃ x11 out__1,s'=(x11,out__1)∧e'=⟨28,1,2,[(3,.pl (.one (.ref 1 []))),(9,.pl (.one (.v (.list false 1 (List.map (rL false 1 (rK .i64)) parents))))),(10,.pl (.one (.v (.sc (.int .i64 (parents.length:Int)))))),(11,.pl (.one (.v (.sc (.int .i64 x11)))))],[(1,.list true 1 (List.map (rK .u64) out__1))]⟩) [3,9,10,11] [(2,1)] 2 ⟨_,_,rfl,rfl⟩ ?_
  rintro s' _ ⟨x11,out__1,rfl,rfl⟩ y1'
  change Tl _ (wV parents x11 out__1) _ _; unfold wV
  refine go ?_
  refine sq ?_
  refine go ?_
  refine sp ?_ ?_
  ·refine go ?_
   refine sq ?_
   refine go ?_; intro x v'
   refine go ?_; intro x20
   refine go ?_; intro u v'
   refine go ?_; intro x_1 v'
   refine go ?_
   exact bk [3,9,10,11] [(1,1)] 2 ⟨_,_,rfl,rfl⟩
  ·refine go ?_
   exact je [3] [(1,1)] 2 fun h=>⟨_,h,rfl⟩
 ·rintro e' ⟨out_,h,rfl⟩; refine tl h ?_; unfold zZ8
  exact gz
theorem qR6 (s:ByteArray) (x:ByteArray) (r':Bool) (h0':strings_Contains s x=some r'):Fn X 267 [.one (.sc (.string s)),.one (.sc (.string x))] [.one (.sc (.bool r'))] []:=by
 unfold strings_Contains at h0'
 split at h0'
 case isFalse=>cases h0'
 rename_i hs
 obtain rfl:=zso h0'
 exact Fn_pureB ⟨_,Go.Proofs.Tryz.func267,rfl,rfl⟩ (fun w hg=>by
  obtain ⟨y,hy,hy2⟩:=hg _ _ (by rfl:X.G (Go.Proofs.Tryz.lays144_ren.g 1)=some isNum)
  obtain ⟨m,hm⟩:=isNum_cell hy hy2
  exact Go.Proofs.Any.strings_Contains {Go.Proofs.Tryz.lays144 with} s x m w hs hm)
instance:∀ s x,Wlk X (strings_Contains s x) 267 [] [.one (.sc (.string s)),.one (.sc (.string x))] (fun r'=>[.one (.sc (.bool r'))]) (fun r'=>[]):=fun s x=>⟨fun r' h=>qR6 s x r' h⟩
instance W_impl_LineOk:∀ line,Wlk X (zY2 line) 221 [] [.one (.sc (.string line))] (fun r'=>[.one (.sc (.bool r'))]) (fun r'=>[]):=fun line=>by
 refine ws f221 11 [.tmp 2] (h2 t3 t9) ?_
 intro r'; unfold zY2
 refine go ?_
 refine gc 4 (fun b e'=>e'=⟨11,1,1,[(10,.pl (.one (.v (.sc (.bool b)))))],[]⟩) ?_ ?_
 ·intro p
  refine kT ?_ ?_
  ·refine go ?_; intro x8
   refine go ?_
   exact ge [10] [] 1 rfl
  ·refine go ?_
   exact ge [10] [] 1 rfl
 ·rintro b _ rfl
  exact gz
instance W_impl_isPlace:∀ n size,Wlk X (zH7 n size) 73 [] [.one (.sc (.int .i64 n)),.one (.sc (.int .i64 size))] (fun r'=>[.one (.sc (.bool r'))]) (fun r'=>[]):=fun n size=>by
 refine ws f73 9 [.tmp 4] t3 ?_
 intro r'; unfold zH7
 refine go ?_; intro x8
 exact gz
instance W_impl_set_has:∀ s v,Wlk X (zO2 s v) 190 [] [.one (.sc (.int .u64 s)),.one (.sc (.int .i64 v))] (fun r'=>[.one (.sc (.bool r'))]) (fun r'=>[]):=fun s v=>by
 refine ws f190 15 [.tmp 4] (h2 t3 (h2 t124 t237)) ?_
 intro r'; unfold zO2
 refine go ?_; intro x6
 refine go ?_
 refine gc 7 (fun b e'=>e'=⟨15,2,2,[(14,.pl (.one (.v (.sc (.bool b)))))],[]⟩) ?_ ?_
 ·intro p
  refine kT ?_ ?_
  ·refine go ?_; intro u v'
   refine go ?_
   exact ge [14] [] 2 rfl
  ·refine go ?_
   exact ge [14] [] 2 rfl
 ·rintro b _ rfl
  exact gz
instance W_impl_setOf:∀ list_,Wlk X (qD6 list_) 83 [] [.one (.list false 1 (List.map (rK .i64) list_))] (fun r'=>[.one (.sc (.int .u64 r'))]) (fun r'=>[]):=fun list_=>by
 refine ws f83 21 [.tmp 2] (h2 t3 (h2 t39 (h2 t124 (h2 t237 qM)))) ?_
 intro r'; unfold qD6
 refine go ?_
 refine jn (fun e'=>∃ s,qH4 s=some r'∧e'=⟨21,1,1,[(3,.pl (.one (.v (.sc (.int .u64 s)))))],[]⟩) ?_ ?_
 ·refine go ?_
  refine lp (fun s' e'=>∃ s_1 x8,s'=(s_1,x8)∧e'=⟨21,1,1,[(3,.pl (.one (.v (.sc (.int .u64 s_1))))),(6,.pl (.one (.v (.list false 1 (List.map (rK .i64) list_))))),(7,.pl (.one (.v (.sc (.int .i64 (list_.length:Int)))))),(8,.pl (.one (.v (.sc (.int .i64 x8)))))],[]⟩) [3,6,7,8] [] 1 ⟨_,_,rfl,rfl⟩ ?_
  rintro s' _ ⟨s_1,x8,rfl,rfl⟩ y1'
  change Tl _ (zB0 list_ s_1 x8) _ _; unfold zB0
  refine go ?_
  refine sq ?_
  refine go ?_
  refine sp ?_ ?_
  ·refine go ?_
   refine sq ?_
   refine go ?_; intro x v'
   refine go ?_; intro x13
   refine go ?_
   refine sp ?_ ?_
   ·refine go ?_; intro u v'
    refine go ?_
    exact bk [3,6,7,8] [] 1 ⟨_,_,rfl,rfl⟩
   ·refine go ?_
    exact bk [3,6,7,8] [] 1 ⟨_,_,rfl,rfl⟩
  ·refine go ?_
   exact je [3] [] 1 fun h=>⟨_,h,rfl⟩
 ·rintro e' ⟨s,h,rfl⟩; refine tl h ?_; unfold qH4
  exact gz
instance W_impl_Body_isLive:∀ b s,Wlk X (wS b s) 193 [] [.agg [.sc (.string b.Line),.sc (.int .i64 b.Ins),.sc (.int .i64 b.Ord),.list false 1 (List.map (rK .i64) b.Dels)],.one (.sc (.int .u64 s))] (fun r'=>[.one (.sc (.bool r'))]) (fun r'=>[]):=fun b s=>by
 refine ws f193 17 [.tmp 4] (h2 t3 (h2 t39 (h2 t46 (h2 t124 qM)))) ?_
 intro r'; unfold wS
 refine go ?_; intro x8
 refine go ?_
 refine gc 7 (fun b_1 e'=>e'=⟨17,5,5,[(16,.pl (.one (.v (.sc (.bool b_1)))))],[]⟩) ?_ ?_
 ·intro p
  refine kT ?_ ?_
  ·refine go ?_; intro x12
   refine go ?_
   exact ge [16] [] 5 rfl
  ·refine go ?_
   exact ge [16] [] 5 rfl
 ·rintro b_1 _ rfl
  exact gz
instance W_impl_Weave_liveIn:∀ w s,Wlk X (wF w s) 82 [] [.one (.box false [.list false 1 (List.map (rL false 1 (rK .i64)) w.Parents),.list false 4 (List.map (zA false) w.Bodies)]),.one (.sc (.int .u64 s))] (fun r'=>[.one (.list true 1 (List.map (rK .i64) r'))]) (fun r'=>[]):=fun w s=>by
 refine ws f82 27 [.tmp 4] (h2 t3 (h2 t25 (h2 t27 (h2 t39 (h2 t46 (h2 jF (h2 zL qM))))))) ?_
 intro r'; unfold wF
 refine go ?_
 refine l1 ?_
 refine go ?_
 refine l1 ?_
 refine go ?_
 refine jn (fun e'=>∃ out_,zQ5 out_=some r'∧e'=⟨27,2,3,[(5,.pl (.one (.ref 2 [])))],[(2,.list true 1 (List.map (rK .i64) out_))]⟩) ?_ ?_
 ·refine go ?_
  refine lp (fun s' e'=>∃ x13 out__1,s'=(x13,out__1)∧e'=⟨27,2,3,[(1,.pl (.one (.v (.sc (.int .u64 s))))),(5,.pl (.one (.ref 2 []))),(11,.pl (.one (.v (.list false 4 (List.map (zA false) w.Bodies))))),(12,.pl (.one (.v (.sc (.int .i64 (w.Bodies.length:Int)))))),(13,.pl (.one (.v (.sc (.int .i64 x13)))))],[(2,.list true 1 (List.map (rK .i64) out__1))]⟩) [1,5,11,12,13] [(3,2)] 3 ⟨_,_,rfl,rfl⟩ ?_
  rintro s' _ ⟨x13,out__1,rfl,rfl⟩ y1'
  change Tl _ (xQ w s x13 out__1) _ _; unfold xQ
  refine go ?_
  refine sq ?_
  refine go ?_
  refine sp ?_ ?_
  ·refine go ?_
   refine sq ?_
   refine go ?_; intro x v'
   refine go ?_
   refine l1 ?_
   refine go ?_; intro x20
   refine go ?_
   refine sp ?_ ?_
   ·refine go ?_; intro l v'
    refine go ?_
    exact bk [1,5,11,12,13] [(2,2)] 3 ⟨_,_,rfl,rfl⟩
   ·refine go ?_
    exact bk [1,5,11,12,13] [(2,2)] 3 ⟨_,_,rfl,rfl⟩
  ·refine go ?_
   exact je [5] [(2,2)] 3 fun h=>⟨_,h,rfl⟩
 ·rintro e' ⟨out_,h,rfl⟩; refine tl h ?_; unfold zQ5
  exact gz
instance W_impl_bodiesOk:∀ w closed,Wlk X (zI7 w closed) 134 [] [.agg [.list false 1 (List.map (rL false 1 (rK .i64)) w.Parents),.list false 4 (List.map (zA false) w.Bodies)],.one (.list false 1 (List.map (rK .u64) closed))] (fun r'=>[.one (.sc (.bool r'))]) (fun r'=>[]):=fun w closed=>by
 refine ws f134 97 [.tmp 4] (h2 t3 (h2 t9 (h2 t24 (h2 t25 (h2 t27 (h2 t39 (h2 t46 (h2 t124 (h2 t125 (h2 jF (h2 zL (h2 qM R_u64)))))))))))) ?_
 intro r'; unfold zI7
 refine go ?_; intro x14 v'
 refine go ?_
 refine jn (fun e'=>∃ born,zI2 w closed born=some r'∧e'=⟨97,3,5,[(1,.pl (.one (.v (.list false 1 (List.map (rK .u64) closed))))),(2,.pl (.one (.ref 3 []))),(5,.pl (.one (.ref 4 [])))],[(3,.box true [.list false 1 (List.map (rL false 1 (rK .i64)) w.Parents),.list false 4 (List.map (zA false) w.Bodies)]),(4,.list true 1 (List.map (rK .i64) born))]⟩) ?_ ?_
 ·refine go ?_
  refine lp (fun s' e'=>∃ x18 born_1,s'=(x18,born_1)∧e'=⟨97,3,5,[(1,.pl (.one (.v (.list false 1 (List.map (rK .u64) closed))))),(2,.pl (.one (.ref 3 []))),(5,.pl (.one (.ref 4 []))),(16,.pl (.one (.v (.list false 4 (List.map (zA false) w.Bodies))))),(17,.pl (.one (.v (.sc (.int .i64 (w.Bodies.length:Int)))))),(18,.pl (.one (.v (.sc (.int .i64 x18)))))],[(3,.box true [.list false 1 (List.map (rL false 1 (rK .i64)) w.Parents),.list false 4 (List.map (zA false) w.Bodies)]),(4,.list true 1 (List.map (rK .i64) born_1))]⟩) [1,2,5,16,17,18] [(3,3),(4,4)] 5 ⟨_,_,rfl,rfl⟩ ?_
  rintro s' _ ⟨x18,born_1,rfl,rfl⟩ y1'
  change Tl _ (jX w closed x18 born_1) _ _; unfold jX
  refine go ?_
  refine sq ?_
  refine go ?_
  refine sp ?_ ?_
  ·refine go ?_
   refine jn (fun e'=>∃ born_2,zQ0 x18 born_2=some y1'∧e'=⟨97,3,5,[(1,.pl (.one (.v (.list false 1 (List.map (rK .u64) closed))))),(2,.pl (.one (.ref 3 []))),(5,.pl (.one (.ref 4 []))),(16,.pl (.one (.v (.list false 4 (List.map (zA false) w.Bodies))))),(17,.pl (.one (.v (.sc (.int .i64 (w.Bodies.length:Int)))))),(18,.pl (.one (.v (.sc (.int .i64 x18)))))],[(3,.box true [.list false 1 (List.map (rL false 1 (rK .i64)) w.Parents),.list false 4 (List.map (zA false) w.Bodies)]),(4,.list true 1 (List.map (rK .i64) born_2))]⟩) ?_ ?_
   ·refine go ?_; intro x_2 v'
    refine go ?_
    refine l1 ?_
    refine go ?_
    refine sq ?_
    refine go ?_
    refine rq ?_
    refine go ?_; intro x24
    refine go ?_
    refine qc 7 (fun b_1 e'=>e'=⟨97,3,6,[(1,.pl (.one (.v (.list false 1 (List.map (rK .u64) closed))))),(2,.pl (.one (.ref 3 []))),(5,.pl (.one (.ref 4 []))),(7,.pl (.one (.ref 5 []))),(16,.pl (.one (.v (.list false 4 (List.map (zA false) w.Bodies))))),(17,.pl (.one (.v (.sc (.int .i64 (w.Bodies.length:Int)))))),(18,.pl (.one (.v (.sc (.int .i64 x18))))),(33,.pl (.one (.v (.sc (.bool b_1)))))],[(3,.box true [.list false 1 (List.map (rL false 1 (rK .i64)) w.Parents),.list false 4 (List.map (zA false) w.Bodies)]),(4,.list true 1 (List.map (rK .i64) born_1)),(5,.box true [.sc (.string x_2.Line),.sc (.int .i64 x_2.Ins),.sc (.int .i64 x_2.Ord),.list false 1 (List.map (rK .i64) x_2.Dels)])]⟩) ?_ ?_
    ·intro p
     refine zD9 ?_ ?_
     ·refine go ?_
      exact ge [1,2,5,7,16,17,18,33] [(3,3),(4,4),(5,5)] 6 rfl
     ·refine go ?_; intro x31
      refine go ?_
      exact ge [1,2,5,7,16,17,18,33] [(3,3),(4,4),(5,5)] 6 rfl
    ·rintro b_1 _ rfl
     refine go ?_
     refine qc 9 (fun b_2 e'=>e'=⟨97,3,6,[(1,.pl (.one (.v (.list false 1 (List.map (rK .u64) closed))))),(2,.pl (.one (.ref 3 []))),(5,.pl (.one (.ref 4 []))),(7,.pl (.one (.ref 5 []))),(16,.pl (.one (.v (.list false 4 (List.map (zA false) w.Bodies))))),(17,.pl (.one (.v (.sc (.int .i64 (w.Bodies.length:Int)))))),(18,.pl (.one (.v (.sc (.int .i64 x18))))),(43,.pl (.one (.v (.sc (.bool b_2)))))],[(3,.box true [.list false 1 (List.map (rL false 1 (rK .i64)) w.Parents),.list false 4 (List.map (zA false) w.Bodies)]),(4,.list true 1 (List.map (rK .i64) born_1)),(5,.box true [.sc (.string x_2.Line),.sc (.int .i64 x_2.Ins),.sc (.int .i64 x_2.Ord),.list false 1 (List.map (rK .i64) x_2.Dels)])]⟩) ?_ ?_
     ·intro p
      refine zD9 ?_ ?_
      ·refine go ?_
       exact ge [1,2,5,7,16,17,18,43] [(3,3),(4,4),(5,5)] 6 rfl
      ·refine go ?_; intro x_3 v'
       refine go ?_
       exact ge [1,2,5,7,16,17,18,43] [(3,3),(4,4),(5,5)] 6 rfl
     ·rintro b_2 _ rfl
      refine go ?_
      refine qc 7 (fun b_3 e'=>e'=⟨97,3,6,[(1,.pl (.one (.v (.list false 1 (List.map (rK .u64) closed))))),(2,.pl (.one (.ref 3 []))),(5,.pl (.one (.ref 4 []))),(7,.pl (.one (.ref 5 []))),(16,.pl (.one (.v (.list false 4 (List.map (zA false) w.Bodies))))),(17,.pl (.one (.v (.sc (.int .i64 (w.Bodies.length:Int)))))),(18,.pl (.one (.v (.sc (.int .i64 x18))))),(51,.pl (.one (.v (.sc (.bool b_3)))))],[(3,.box true [.list false 1 (List.map (rL false 1 (rK .i64)) w.Parents),.list false 4 (List.map (zA false) w.Bodies)]),(4,.list true 1 (List.map (rK .i64) born_1)),(5,.box true [.sc (.string x_2.Line),.sc (.int .i64 x_2.Ins),.sc (.int .i64 x_2.Ord),.list false 1 (List.map (rK .i64) x_2.Dels)])]⟩) ?_ ?_
      ·intro p
       refine zD9 ?_ ?_
       ·refine go ?_
        exact ge [1,2,5,7,16,17,18,51] [(3,3),(4,4),(5,5)] 6 rfl
       ·refine go ?_; intro x49
        refine go ?_
        exact ge [1,2,5,7,16,17,18,51] [(3,3),(4,4),(5,5)] 6 rfl
      ·rintro b_3 _ rfl
       refine go ?_
       refine sp ?_ ?_
       ·exact gz
       ·refine go ?_; intro x_4 v'
        refine go ?_
        refine lp (fun x62 e'=>e'=⟨97,3,6,[(1,.pl (.one (.v (.list false 1 (List.map (rK .u64) closed))))),(2,.pl (.one (.ref 3 []))),(5,.pl (.one (.ref 4 []))),(7,.pl (.one (.ref 5 []))),(16,.pl (.one (.v (.list false 4 (List.map (zA false) w.Bodies))))),(17,.pl (.one (.v (.sc (.int .i64 (w.Bodies.length:Int)))))),(18,.pl (.one (.v (.sc (.int .i64 x18))))),(60,.pl (.one (.v (.list false 1 (List.map (rK .i64) x_2.Dels))))),(61,.pl (.one (.v (.sc (.int .i64 (x_2.Dels.length:Int)))))),(62,.pl (.one (.v (.sc (.int .i64 x62)))))],[(3,.box true [.list false 1 (List.map (rL false 1 (rK .i64)) w.Parents),.list false 4 (List.map (zA false) w.Bodies)]),(4,.list true 1 (List.map (rK .i64) (born_1.set x_2.Ins.toNat (wk .i64 (x_4+1))))),(5,.box true [.sc (.string x_2.Line),.sc (.int .i64 x_2.Ins),.sc (.int .i64 x_2.Ord),.list false 1 (List.map (rK .i64) x_2.Dels)])]⟩) [1,2,5,7,16,17,18,60,61,62] [(3,3),(4,4),(5,5)] 6 rfl ?_
        rintro x62 _ rfl y2'
        change Tl _ (zB6 w closed x_2 x62) _ _; unfold zB6
        refine go ?_
        refine sq ?_
        refine go ?_
        refine sp ?_ ?_
        ·refine go ?_
         refine sq ?_
         refine go ?_; intro x_5 v'
         refine go ?_; intro x_6 v'
         refine go ?_
         refine rq ?_
         refine go ?_; intro x73
         refine go ?_; intro x74
         refine go ?_
         refine sp ?_ ?_
         ·exact gz
         ·refine go ?_
          exact bk [1,2,5,7,16,17,18,60,61,62] [(3,3),(4,4),(5,5)] 6 rfl
        ·refine go ?_
         exact je [1,2,5,16,17,18] [(3,3),(4,4)] 5 fun h=>⟨_,h,rfl⟩
   ·rintro e' ⟨born_2,h,rfl⟩; refine tl h ?_; unfold zQ0
    refine go ?_
    exact bk [1,2,5,16,17,18] [(3,3),(4,4)] 5 ⟨_,_,rfl,rfl⟩
  ·refine go ?_
   exact je [1,2,5] [(3,3),(4,4)] 5 fun h=>⟨_,h,rfl⟩
 ·rintro e' ⟨born,h,rfl⟩; refine tl h ?_; unfold zI2
  refine jn (fun e'=>qA3=some r'∧e'=⟨97,3,3,[],[]⟩) ?_ ?_
  ·refine go ?_
   refine lp (fun x80 e'=>e'=⟨97,3,5,[(2,.pl (.one (.ref 3 []))),(5,.pl (.one (.ref 4 []))),(78,.pl (.one (.v (.list false 1 (List.map (rK .u64) closed))))),(79,.pl (.one (.v (.sc (.int .i64 (closed.length:Int)))))),(80,.pl (.one (.v (.sc (.int .i64 x80)))))],[(3,.box true [.list false 1 (List.map (rL false 1 (rK .i64)) w.Parents),.list false 4 (List.map (zA false) w.Bodies)]),(4,.list true 1 (List.map (rK .i64) born))]⟩) [2,5,78,79,80] [(3,3),(4,4)] 5 rfl ?_
   rintro x80 _ rfl y1'
   change Tl _ (zC4 w closed born x80) _ _; unfold zC4
   refine go ?_
   refine sq ?_
   refine go ?_
   refine sp ?_ ?_
   ·refine go ?_
    refine sq ?_
    refine go ?_; intro x v'
    refine go ?_; intro x_1 v'
    refine go ?_
    refine gc 5 (fun b e'=>e'=⟨97,3,5,[(2,.pl (.one (.ref 3 []))),(5,.pl (.one (.ref 4 []))),(78,.pl (.one (.v (.list false 1 (List.map (rK .u64) closed))))),(79,.pl (.one (.v (.sc (.int .i64 (closed.length:Int)))))),(80,.pl (.one (.v (.sc (.int .i64 x80))))),(95,.pl (.one (.v (.sc (.bool b)))))],[(3,.box true [.list false 1 (List.map (rL false 1 (rK .i64)) w.Parents),.list false 4 (List.map (zA false) w.Bodies)]),(4,.list true 1 (List.map (rK .i64) born))]⟩) ?_ ?_
    ·intro p
     refine xG ?_ ?_
     ·refine go ?_
      exact ge [2,5,78,79,80,95] [(3,3),(4,4)] 5 rfl
     ·refine go ?_; intro x92
      refine go ?_
      exact ge [2,5,78,79,80,95] [(3,3),(4,4)] 5 rfl
    ·rintro b _ rfl
     refine go ?_
     refine sp ?_ ?_
     ·exact gz
     ·refine go ?_
      exact bk [2,5,78,79,80] [(3,3),(4,4)] 5 rfl
   ·refine go ?_
    exact je [] [] 3 fun h=>⟨h,rfl⟩
  ·rintro e' ⟨h,rfl⟩; refine tl h ?_; unfold qA3
   exact gz
instance W_impl_WeaveOk:∀ w,Wlk X (zD4 w) 41 [] [.agg [.list false 1 (List.map (rL false 1 (rK .i64)) w.Parents),.list false 4 (List.map (zA false) w.Bodies)]] (fun r'=>[.one (.sc (.bool r'))]) (fun r'=>[]):=fun w=>by
 refine ws f41 19 [.tmp 2] (h2 t3 (h2 t24 (h2 t25 (h2 t27 (h2 jF (h2 zL (h2 qM R_u64))))))) ?_
 intro r'; unfold zD4
 refine go ?_
 refine bx ?_; intro b gh0_1_0
 refine bx ?_; intro b_1 gh1_1_0
 refine jr (fun e'=>e'=⟨19,2,2,[(2,.pl (.one (.v (.sc (.bool b_1)))))],[]⟩) ?_ ?_
 ·refine rc [0,1,2,3,4,5,6,7,8,9,10,11,12,13,14,15,16] ?_
  refine go ?_
  refine cs (fun c0=>?_) (fun c0=>?_)
  ·replace gh0_1_0:=(ifT c0).symm.trans gh0_1_0
   obtain ⟨x10,hy_x10,gh0_1_0⟩:=zbi gh0_1_0
   obtain rfl:=zso gh0_1_0
   refine go ?_
   refine cc hy_x10 ?_
   refine go ?_
   refine cs (fun c1=>?_) (fun c1=>?_)
   ·replace gh1_1_0:=(ifT c1).symm.trans gh1_1_0
    obtain ⟨x16,hy_x16,gh1_1_0⟩:=zbi gh1_1_0
    obtain ⟨x17,hy_x17,gh1_1_0⟩:=zbi gh1_1_0
    obtain rfl:=zso gh1_1_0
    refine go ?_
    refine cc hy_x16 ?_
    refine cc hy_x17 ?_
    refine go ?_
    exact gq [2] [] 2 rfl
   ·replace gh1_1_0:=(ifF c1).symm.trans gh1_1_0
    obtain rfl:=zso gh1_1_0
    refine go ?_
    exact gq [2] [] 2 rfl
  ·replace gh0_1_0:=(ifF c0).symm.trans gh0_1_0
   obtain rfl:=zso gh0_1_0
   refine go ?_
   replace gh1_1_0:=(ifF rfl).symm.trans gh1_1_0
   obtain rfl:=zso gh1_1_0
   refine go ?_
   exact gq [2] [] 2 rfl
 ·rintro e' rfl; refine cn ?_
  exact gz
instance W_slices_Index_int_int:∀ s v,Wlk X (kW s v) 183 [] [.one (.list false 1 (List.map (rK .i64) s)),.one (.sc (.int .i64 v))] (fun r'=>[.one (.sc (.int .i64 r'))]) (fun r'=>[]):=fun s v=>by
 refine ws f183 19 [.tmp 4] (h2 t3 (h2 t39 qM)) ?_
 intro r'; unfold kW
 refine go ?_
 refine jn (fun e'=>zI5=some r'∧e'=⟨19,2,2,[],[]⟩) ?_ ?_
 ·refine go ?_
  refine lp (fun x8 e'=>e'=⟨19,2,2,[(0,.pl (.one (.v (.list false 1 (List.map (rK .i64) s))))),(1,.pl (.one (.v (.sc (.int .i64 v))))),(7,.pl (.one (.v (.sc (.int .i64 (s.length:Int)))))),(8,.pl (.one (.v (.sc (.int .i64 x8)))))],[]⟩) [0,1,7,8] [] 2 rfl ?_
  rintro x8 _ rfl y1'
  change Tl _ (xE s v x8) _ _; unfold xE
  refine go ?_
  refine sq ?_
  refine go ?_
  refine sp ?_ ?_
  ·refine go ?_
   refine sq ?_
   refine go ?_; intro x v'
   refine go ?_
   refine sp ?_ ?_
   ·exact gz
   ·refine go ?_
    exact bk [0,1,7,8] [] 2 rfl
  ·refine go ?_
   exact je [] [] 2 fun h=>⟨h,rfl⟩
 ·rintro e' ⟨h,rfl⟩; refine tl h ?_; unfold zI5
  exact gz
instance W_slices_Contains_int_int:∀ s v,Wlk X (kO s v) 188 [] [.one (.list false 1 (List.map (rK .i64) s)),.one (.sc (.int .i64 v))] (fun r'=>[.one (.sc (.bool r'))]) (fun r'=>[]):=fun s v=>by
 refine ws f188 9 [.tmp 4] (h2 t3 qM) ?_
 intro r'; unfold kO
 refine go ?_; intro x7
 exact gz
instance W_impl_marks:∀ ins dels nextIns nextDels,Wlk X (zW1 ins dels nextIns nextDels) 181 [] [.one (.sc (.int .i64 ins)),.one (.list false 1 (List.map (rK .i64) dels)),.one (.sc (.int .i64 nextIns)),.one (.list false 1 (List.map (rK .i64) nextDels))] (fun r'=>[.one (.list true 3 (List.map (zG true) r'))]) (fun r'=>[]):=fun ins dels nextIns nextDels=>by
 refine ws f181 76 [.tmp 8] (h2 t3 (h2 t9 (h2 t30 (h2 t39 (h2 t114 (h2 zH4 qM)))))) ?_
 intro r'; unfold zW1
 refine go ?_
 refine lf ?_ (fun a g=>zP2 a 3 g)
 refine go ?_
 refine lf ?_ (fun a g=>zP2 a 3 g)
 refine go ?_
 refine jn (fun e'=>∃ out_,zR5 ins dels nextIns nextDels out_=some r'∧e'=⟨76,4,5,[(0,.pl (.one (.v (.sc (.int .i64 ins))))),(1,.pl (.one (.v (.list false 1 (List.map (rK .i64) dels))))),(2,.pl (.one (.v (.sc (.int .i64 nextIns))))),(3,.pl (.one (.v (.list false 1 (List.map (rK .i64) nextDels))))),(9,.pl (.one (.ref 4 [])))],[(4,.list true 3 (List.map (zG true) out_))]⟩) ?_ ?_
 ·refine go ?_
  refine lp (fun s' e'=>∃ i out__5,s'=(i,out__5)∧e'=⟨76,4,5,[(0,.pl (.one (.v (.sc (.int .i64 ins))))),(1,.pl (.one (.v (.list false 1 (List.map (rK .i64) dels))))),(2,.pl (.one (.v (.sc (.int .i64 nextIns))))),(3,.pl (.one (.v (.list false 1 (List.map (rK .i64) nextDels))))),(9,.pl (.one (.ref 4 []))),(10,.pl (.one (.v (.sc (.int .i64 i)))))],[(4,.list true 3 (List.map (zG true) out__5))]⟩) [0,1,2,3,9,10] [(5,4)] 5 ⟨_,_,rfl,rfl⟩ ?_
  rintro s' _ ⟨i,out__5,rfl,rfl⟩ y1'
  change Tl _ (zJ4 dels nextDels i out__5) _ _; unfold zJ4
  refine sq ?_
  refine go ?_
  refine sp ?_ ?_
  ·refine go ?_
   refine sq ?_
   refine go ?_; intro x_1 v'
   refine go ?_; intro x25
   refine go ?_
   refine sp ?_ ?_
   ·refine go ?_; intro l_3 v'
    refine go ?_
    exact bk [0,1,2,3,9,10] [(4,4)] 5 ⟨_,_,rfl,rfl⟩
   ·refine go ?_
    exact bk [0,1,2,3,9,10] [(4,4)] 5 ⟨_,_,rfl,rfl⟩
  ·refine go ?_
   exact je [0,1,2,3,9] [(4,4)] 5 fun h=>⟨_,h,rfl⟩
 ·rintro e' ⟨out_,h,rfl⟩; refine tl h ?_; unfold zR5
  refine jn (fun e'=>∃ out__1,zJ0 ins dels nextIns nextDels out__1=some r'∧e'=⟨76,4,5,[(0,.pl (.one (.v (.sc (.int .i64 ins))))),(1,.pl (.one (.v (.list false 1 (List.map (rK .i64) dels))))),(2,.pl (.one (.v (.sc (.int .i64 nextIns))))),(3,.pl (.one (.v (.list false 1 (List.map (rK .i64) nextDels))))),(9,.pl (.one (.ref 4 [])))],[(4,.list true 3 (List.map (zG true) out__1))]⟩) ?_ ?_
  ·refine go ?_
   refine gc 3 (fun b_1 e'=>e'=⟨76,4,5,[(0,.pl (.one (.v (.sc (.int .i64 ins))))),(1,.pl (.one (.v (.list false 1 (List.map (rK .i64) dels))))),(2,.pl (.one (.v (.sc (.int .i64 nextIns))))),(3,.pl (.one (.v (.list false 1 (List.map (rK .i64) nextDels))))),(9,.pl (.one (.ref 4 []))),(41,.pl (.one (.v (.sc (.bool b_1)))))],[(4,.list true 3 (List.map (zG true) out_))]⟩) ?_ ?_
   ·intro p
    refine kT ?_ ?_
    ·refine go ?_
     exact ge [0,1,2,3,9,41] [(4,4)] 5 rfl
    ·refine go ?_
     exact ge [0,1,2,3,9,41] [(4,4)] 5 rfl
   ·rintro b_1 _ rfl
    refine go ?_
    refine sp ?_ ?_
    ·refine go ?_; intro l_2 v'
     refine go ?_
     exact je [0,1,2,3,9] [(4,4)] 5 fun h=>⟨_,h,rfl⟩
    ·refine go ?_
     exact je [0,1,2,3,9] [(4,4)] 5 fun h=>⟨_,h,rfl⟩
  ·rintro e' ⟨out__1,h,rfl⟩; refine tl h ?_; unfold zJ0
   refine jn (fun e'=>∃ out__2,zJ1 dels nextDels out__2=some r'∧e'=⟨76,4,5,[(1,.pl (.one (.v (.list false 1 (List.map (rK .i64) dels))))),(3,.pl (.one (.v (.list false 1 (List.map (rK .i64) nextDels))))),(9,.pl (.one (.ref 4 [])))],[(4,.list true 3 (List.map (zG true) out__2))]⟩) ?_ ?_
   ·refine go ?_
    refine gc 3 (fun b e'=>e'=⟨76,4,5,[(1,.pl (.one (.v (.list false 1 (List.map (rK .i64) dels))))),(2,.pl (.one (.v (.sc (.int .i64 nextIns))))),(3,.pl (.one (.v (.list false 1 (List.map (rK .i64) nextDels))))),(9,.pl (.one (.ref 4 []))),(53,.pl (.one (.v (.sc (.bool b)))))],[(4,.list true 3 (List.map (zG true) out__1))]⟩) ?_ ?_
    ·intro p
     refine kT ?_ ?_
     ·refine go ?_
      exact ge [1,2,3,9,53] [(4,4)] 5 rfl
     ·refine go ?_
      exact ge [1,2,3,9,53] [(4,4)] 5 rfl
    ·rintro b _ rfl
     refine go ?_
     refine sp ?_ ?_
     ·refine go ?_; intro l_1 v'
      refine go ?_
      exact je [1,3,9] [(4,4)] 5 fun h=>⟨_,h,rfl⟩
     ·refine go ?_
      exact je [1,3,9] [(4,4)] 5 fun h=>⟨_,h,rfl⟩
   ·rintro e' ⟨out__2,h,rfl⟩; refine tl h ?_; unfold zJ1
    refine jn (fun e'=>∃ out__3,qH8 out__3=some r'∧e'=⟨76,4,5,[(9,.pl (.one (.ref 4 [])))],[(4,.list true 3 (List.map (zG true) out__3))]⟩) ?_ ?_
    ·refine go ?_
     refine lp (fun s' e'=>∃ x61 out__4,s'=(x61,out__4)∧e'=⟨76,4,5,[(1,.pl (.one (.v (.list false 1 (List.map (rK .i64) dels))))),(9,.pl (.one (.ref 4 []))),(59,.pl (.one (.v (.list false 1 (List.map (rK .i64) nextDels))))),(60,.pl (.one (.v (.sc (.int .i64 (nextDels.length:Int)))))),(61,.pl (.one (.v (.sc (.int .i64 x61)))))],[(4,.list true 3 (List.map (zG true) out__4))]⟩) [1,9,59,60,61] [(4,4)] 5 ⟨_,_,rfl,rfl⟩ ?_
     rintro s' _ ⟨x61,out__4,rfl,rfl⟩ y1'
     change Tl _ (zJ5 dels nextDels x61 out__4) _ _; unfold zJ5
     refine go ?_
     refine sq ?_
     refine go ?_
     refine sp ?_ ?_
     ·refine go ?_
      refine sq ?_
      refine go ?_; intro x v'
      refine go ?_; intro x67
      refine go ?_
      refine sp ?_ ?_
      ·refine go ?_; intro l v'
       refine go ?_
       exact bk [1,9,59,60,61] [(4,4)] 5 ⟨_,_,rfl,rfl⟩
      ·refine go ?_
       exact bk [1,9,59,60,61] [(4,4)] 5 ⟨_,_,rfl,rfl⟩
     ·refine go ?_
      exact je [9] [(4,4)] 5 fun h=>⟨_,h,rfl⟩
    ·rintro e' ⟨out__3,h,rfl⟩; refine tl h ?_; unfold qH8
     exact gz
instance W_impl_records:∀ w,Wlk X (zP1 w) 69 [] [.agg [.list false 1 (List.map (rL false 1 (rK .i64)) w.Parents),.list false 4 (List.map (zA false) w.Bodies)]] (fun r'=>[.one (.list true 3 (List.map (zG true) r'))]) (fun r'=>[]):=fun w=>by
 refine ws f69 40 [.tmp 2] (h2 t3 (h2 t9 (h2 t25 (h2 t27 (h2 t30 (h2 t39 (h2 t46 (h2 t114 (h2 jF (h2 zL (h2 zH4 qM))))))))))) ?_
 intro r'; unfold zP1
 refine go ?_
 refine lf ?_ (fun a g=>zP2 a 3 g)
 refine go ?_
 refine lf ?_ (fun a g=>zP2 a 3 g)
 refine go ?_
 refine l1 ?_
 refine go ?_
 refine jn (fun e'=>∃ ins dels out_,zT2 ins dels out_=some r'∧e'=⟨40,2,3,[(3,.pl (.one (.ref 2 []))),(4,.pl (.one (.v (.sc (.int .i64 ins))))),(5,.pl (.one (.v (.list false 1 (List.map (rK .i64) dels)))))],[(2,.list true 3 (List.map (zG true) out_))]⟩) ?_ ?_
 ·refine go ?_
  refine tF 5 ?_
  refine go ?_
  refine lp (fun s' e'=>∃ ins_1 dels_1 x11 out__1,s'=(ins_1,dels_1,x11,out__1)∧e'=⟨40,2,3,[(3,.pl (.one (.ref 2 []))),(4,.pl (.one (.v (.sc (.int .i64 ins_1))))),(5,.pl (.one (.v (.list false 1 (List.map (rK .i64) dels_1))))),(9,.pl (.one (.v (.list false 4 (List.map (zA false) w.Bodies))))),(10,.pl (.one (.v (.sc (.int .i64 (w.Bodies.length:Int)))))),(11,.pl (.one (.v (.sc (.int .i64 x11)))))],[(2,.list true 3 (List.map (zG true) out__1))]⟩) [3,4,5,9,10,11] [(4,2)] 3 ⟨_,_,_,_,rfl,rfl⟩ ?_
  rintro s' _ ⟨ins_1,dels_1,x11,out__1,rfl,rfl⟩ y1'
  change Tl _ (wK w ins_1 dels_1 x11 out__1) _ _; unfold wK
  refine go ?_
  refine sq ?_
  refine go ?_
  refine sp ?_ ?_
  ·refine go ?_
   refine sq ?_
   refine go ?_; intro x v'
   refine go ?_
   refine l1 ?_
   refine go ?_; intro x22
   refine go ?_; intro l_1 v'
   refine go ?_; intro l_2 v'
   refine go ?_
   refine rq ?_
   refine go ?_
   exact bk [3,4,5,9,10,11] [(2,2)] 3 ⟨_,_,_,_,rfl,rfl⟩
  ·refine go ?_
   exact je [3,4,5] [(2,2)] 3 fun h=>⟨_,_,_,h,rfl⟩
 ·rintro e' ⟨ins,dels,out_,h,rfl⟩; refine tl h ?_; unfold zT2
  refine go ?_
  refine cN [(3,false,1)] ?_; intro x38
  refine go ?_; intro l v'
  exact gz
instance W_impl_Records:∀ w,Wlk X (zO5 w) 15 [] [.agg [.list false 1 (List.map (rL false 1 (rK .i64)) w.Parents),.list false 4 (List.map (zA false) w.Bodies)]] (fun r'=>[.one (.list true 3 (List.map (zG true) r'.1)),.one (.sc (.bool r'.2))]) (fun r'=>[]):=fun w=>by
 refine ws f15 14 [.tmp 2,.tmp 3] (h2 t3 (h2 t27 (h2 t30 (h2 jF (h2 zL (h2 zH4 qM)))))) ?_
 intro r'; unfold zO5
 refine go ?_
 refine lf ?_ (fun a g=>zP2 a 3 g)
 refine go ?_
 refine sq ?_
 refine go ?_; intro x6
 refine go ?_
 refine sp ?_ ?_
 ·refine go ?_
  refine lf ?_ (fun a g=>zP2 a 3 g)
  exact gz
 ·refine go ?_; intro x9
  refine go ?_
  refine sq ?_
  refine go ?_
  refine sp ?_ ?_
  ·refine go ?_
   refine lf ?_ (fun a g=>zP2 a 3 g)
   exact gz
  ·exact gz
instance W_impl_varText:∀ n,Wlk X (yY n) 88 [] [.one (.sc (.int .i64 n))] (fun r'=>[.one (.sc (.string r'))]) (fun r'=>[]):=fun n=>by
 refine ws f88 21 [.tmp 2] (h2 t3 (h2 t5 (h2 t9 (h2 t22 R_u8)))) ?_
 intro r'; unfold yY
 refine go ?_
 refine l1 ?_
 refine go ?_
 refine jn (fun e'=>∃ n_1 out_,zS7 n_1 out_=some r'∧e'=⟨21,1,2,[(0,.pl (.one (.v (.sc (.int .i64 n_1))))),(3,.pl (.one (.ref 1 [])))],[(1,.list true 1 (List.map (rK .u8) out_))]⟩) ?_ ?_
 ·refine go ?_
  refine lp (fun s' e'=>∃ n_2 out__1,s'=(n_2,out__1)∧e'=⟨21,1,2,[(0,.pl (.one (.v (.sc (.int .i64 n_2))))),(3,.pl (.one (.ref 1 [])))],[(1,.list true 1 (List.map (rK .u8) out__1))]⟩) [0,3] [(1,1)] 2 ⟨_,_,rfl,rfl⟩ ?_
  rintro s' _ ⟨n_2,out__1,rfl,rfl⟩ y1'
  change Tl _ (zL3 n_2 out__1) _ _; unfold zL3
  refine sq ?_
  refine go ?_
  refine sp ?_ ?_
  ·refine go ?_; intro l_1 v'
   refine go ?_
   exact bk [0,3] [(1,1)] 2 ⟨_,_,rfl,rfl⟩
  ·refine go ?_
   exact je [0,3] [(1,1)] 2 fun h=>⟨_,_,h,rfl⟩
 ·rintro e' ⟨n_1,out_,h,rfl⟩; refine tl h ?_; unfold zS7
  refine go ?_; intro l v'
  exact gz
section
open Go.RowKit Go.Proofs Go
theorem zK7:∃ j,Tryz.prog.info? 139=some j∧j.size=2:=by
 have:(Tryz.prog.info? 139).map (·.size)=some 2:=by kernel_rfl
 obtain ⟨j,h1,h2⟩:=Option.map_eq_some_iff.1 this
 exact ⟨j,h1,h2⟩
theorem qD1:liesAt Tryz.prog Tryz.prog.depth 139 (2 / Tryz.prog.cellsOf 139) 0 139 1=true:=by kernel_rfl
theorem zN5 (b:Nat) (w:World) (h0:w.cell? ⟨b,0,none⟩=some (.pointer (some ⟨b,0,none⟩))) :
  Calls Tryz.prog 194 #[.pointer (some ⟨b,0,none⟩)] w fun e w'=>e=.returned (.tuple #[])∧w'=w:=by
 obtain ⟨j,hj,_⟩:=zK7
 go_enter Tryz.func194,Tryz.ntmps194
 go_wp2
 rw [Go.Lib.run_neq_ptr_same w _ Tryz.underlying137 hj]
 go_wp2
 go_end0
 exact ⟨rfl,rfl⟩
theorem zL6 (b:Nat) (w:World) (h0:w.cell? ⟨b,0,none⟩=some (.pointer none)) (hsh:w.shape? b=some (139,2)) (hfz:w.frozen? ⟨b,0,none⟩=false) :
  Calls Tryz.prog 194 #[.pointer (some ⟨b,0,none⟩)] w fun e w'=>e=.returned (.tuple #[])∧w'=w.setCell ⟨b,0,none⟩ (.pointer (some ⟨b,0,none⟩)):=by
 obtain ⟨j,hj,hjs⟩:=zK7
 go_enter Tryz.func194,Tryz.ntmps194
 go_wp2
 rw [Go.Lib.run_to_unsafe w ⟨b,0,none⟩ Tryz.underlying137 Tryz.underlying291 hj (by rw [hjs]; decide) hsh (Nat.zero_lt_succ 1)]
 simp only [Result.andThen]
 rw [Oper.upon_value]
 go_wp2
 rw [run_callFunc_extern Tryz.func263 (by kernel_rfl) (by kernel_rfl) (by kernel_rfl) (e:=Extern.AbiNoEscape.same) (by kernel_rfl)]
 rw [Go.Lib.run_noEscape]
 simp only [Result.andThen]
 rw [Oper.upon_value]
 go_wp2
 rw [Go.Lib.run_from_unsafe w ⟨b,0,none⟩ Tryz.underlying291 Tryz.underlying137 hj hsh qD1]
 simp only [Result.andThen]
 rw [Oper.upon_value]
 go_wp2
 go_end0
 exact ⟨rfl,rfl⟩
theorem zY0:∃ i,Tryz.prog.info? 5=some i∧i.zero=some (.int .u8 0)∧i.size=1∧i.bytes=1:=by
 have:(Tryz.prog.info? 5).map (fun i=>(i.zero,i.size,i.bytes))=some (some (.int .u8 0),1,1):=by kernel_rfl
 obtain ⟨i,h1,h2⟩:=Option.map_eq_some_iff.1 this
 injection h2 with h2 h3
 injection h3 with h3 h4
 exact ⟨i,h1,h2,h3,h4⟩
theorem zX7 (b:Nat) (p v:Value) (s x:ByteArray) (w:World) (hbk:w.heap[b]? = some (.cells #[p,v] 139 (0,0))) (hp:p=.pointer none∨p=.pointer (some ⟨b,0,none⟩)) (hown:w.ownsRow 0 5 1 v s.size (Go.Lib.strCells s)) (hne:v.ownBlock≠some b) (hlen:s.size+x.size≤549755813888) :
  Calls Tryz.prog 87 #[.pointer (some ⟨b,0,none⟩),.string x] w fun e w'=>e=.returned (.tuple #[.int .i64 x.size,.nilIface])∧∃ v',w'.heap[b]? = some (.cells #[.pointer (some ⟨b,0,none⟩),v'] 139 (0,0))∧w'.ownsRow 0 5 1 v' (s.size+x.size) (Go.Lib.strCells s++Go.Lib.strCells x)∧v'.ownBlock≠some b ∧
   w'.os=w.os∧w'.tape=w.tape∧w'.output=w.output∧w.heap.size≤w'.heap.size∧(∀ k,k < w.heap.size→k≠b→v.ownBlock≠some k→w'.heap[k]? = w.heap[k]?)∧(∀ g,v'.ownBlock=some g→v.ownBlock=some g∨w.heap.size≤g)∧(v=.slice none 0 0→x.size=0→v'=.slice none 0 0):=by
 obtain ⟨i0,hi,hz0,hz1,hz2⟩:=zY0
 have hblt:b < w.heap.size:=by
  rcases Nat.lt_or_ge b w.heap.size with h' | h'
  ·exact h'
  ·simp [Array.getElem?_eq_none h'] at hbk
 have hc0:w.cell? ⟨b,0,none⟩=some p:=by rw [Go.Lib.cell_of_heap hbk]; rfl
 have hsh:w.shape? b=some (139,2):=by simp [World.shape?,hbk]
 have hfz:w.frozen? ⟨b,0,none⟩=false:=Go.Lib.frozen_of_heap hbk 0
 -- behind the look at the copy
 have key:Calls Tryz.prog 194 #[.pointer (some ⟨b,0,none⟩)] w fun e w1=>e=.returned (.tuple #[])∧w1.heap[b]? = some (.cells #[.pointer (some ⟨b,0,none⟩),v] 139 (0,0))∧w1.os=w.os∧w1.tape=w.tape∧w1.output=w.output∧w1.heap.size=w.heap.size∧(∀ k,k≠b→w1.heap[k]? = w.heap[k]?):=by
  rcases hp with rfl | rfl
  ·refine (zL6 b w hc0 hsh hfz).mono ?_
   rintro e w1 ⟨rfl,rfl⟩
   refine ⟨rfl,?_,rfl,rfl,rfl,by simp [World.setCell],fun k hk=>Below.heap_setCell _ _ _ _ hk⟩
   simp [World.setCell,Array.getElem?_modify,hbk]
  ·refine (zN5 b w hc0).mono ?_
   rintro e w1 ⟨rfl,rfl⟩
   exact ⟨rfl,hbk,rfl,rfl,rfl,rfl,fun _ _=>rfl⟩
 have e194:∀ args w,(callFunc 194 args).run Tryz.prog w=.ok (.enter 194 args) w:=enters_of Tryz.func194 (by kernel_rfl) rfl
 go_enter Tryz.func87,Tryz.ntmps87
 go_wp2_with (go_at_fn 194; refine key.mono ?_)
 rintro e w1 ⟨rfl,hbk1,o1,o2,o3,o4,o5⟩
 have hown1:w1.ownsRow 0 5 1 v s.size (Go.Lib.strCells s):=by
  refine ⟨hown.1,?_⟩
  rcases hown.2 with h | ⟨g,cap,cur,rfl,h2,h3,h4⟩
  ·exact .inl h
  ·exact .inr ⟨g,cap,cur,rfl,h2,by rw [o5 g (fun q=>hne (by simp [Value.ownBlock,q]))]; exact h3,h4⟩
 have c1:w1.cell? ⟨b,1,none⟩=some v:=by rw [Go.Lib.cell_of_heap hbk1]; rfl
 obtain ⟨v',w2,hr,hown2,hgrow,hnew,hnil⟩:=Go.TV.append_bld (P:=Tryz.prog) w1 22 9 22 5 i0 Tryz.underlying22 Tryz.underlying9 hi hz0 hz1 hz2 v s.size (Go.Lib.strCells s) hown1 x hlen
 go_wp2_with (at_builtin; refine Go.TV.wpList_app2 rfl _ _ 22 9 rfl rfl rfl hr ?_)
 rintro v2 w3 ⟨e1,e2⟩
 rw [e1,e2]
 clear e1 e2
 have hb2:w2.heap[b]? = some (.cells #[.pointer (some ⟨b,0,none⟩),v] 139 (0,0)):=by
  rw [hgrow.block b (by omega) (fun e=>hne e.symm)]
  exact hbk1
 have d0:w2.cell? ⟨b,0,none⟩=some (.pointer (some ⟨b,0,none⟩)):=by rw [Go.Lib.cell_of_heap hb2]; rfl
 have d1:w2.cell? ⟨b,1,none⟩=some v:=by rw [Go.Lib.cell_of_heap hb2]; rfl
 have f1:w2.frozen? ⟨b,1,none⟩=false:=Go.Lib.frozen_of_heap hb2 1
 obtain ⟨ao,n',cap,rfl⟩:∃ ao n' cap,v'=.slice ao n' cap:=by
  rcases hown2.2 with ⟨hv,_⟩ | ⟨g,cap,cur,hv,_⟩
  ·exact ⟨_,_,_,hv⟩
  ·exact ⟨_,_,_,hv⟩
 go_wp2
 go_ret2
 have hne2:(Value.slice ao n' cap).ownBlock≠some b:=fun q=>by
  rcases hnew b q with h | h
  ·exact hne h
  ·omega
 refine ⟨rfl,_,?_,?_,hne2,hgrow.os.trans o1,hgrow.tape.trans o2,hgrow.output.trans o3,?_,?_,?_,hnil⟩
 ·simp [World.setCell,Array.getElem?_modify,hb2]
 ·refine ⟨hown2.1,?_⟩
  rcases hown2.2 with h | ⟨g,cap',cur,h1,h2,h3,h4⟩
  ·exact .inl h
  ·refine .inr ⟨g,cap',cur,h1,h2,?_,h4⟩
   rw [Below.heap_setCell _ _ _ _ (fun q=>hne2 (by rw [h1,q]; rfl))]
   exact h3
 ·have:=hgrow.size
  simp [World.setCell]
  omega
 ·intro k hk hkb hkv
  rw [Below.heap_setCell _ _ _ _ hkb,hgrow.block k (by omega) (fun q=>hkv q.symm),o5 k hkb]
 ·intro g hg
  rcases hnew g hg with h | h
  ·exact .inl h
  ·right
   omega
end
theorem qF1 (b:ByteArray) (x:ByteArray) (r':ByteArray) (h0':zP b x=some r'):Fn X 87 [.one (.bld 139 5 b),.one (.sc (.string x))] [.one (.sc (.int .i64 (x.size:Int))),.one (.sc .nilIface)] [(0,.bld 139 5 r')]:=by
 unfold zP at h0'
 split at h0'
 case isFalse=>cases h0'
 rename_i hs
 obtain rfl:=zso h0'
 exact Fn_bldWrite ⟨_,Go.Proofs.Tryz.func87,rfl,rfl⟩ (fun bb p v w h1 h2 h3 h4=>zX7 bb p v b x w h1 h2 h3 h4 hs)
instance:∀ b x,Wlk X (zP b x) 87 [0] [.one (.bld 139 5 b),.one (.sc (.string x))] (fun r'=>[.one (.sc (.int .i64 (x.size:Int))),.one (.sc .nilIface)]) (fun r'=>[(0,.bld 139 5 r')]):=fun b x=>⟨fun r' h=>qF1 b x r' h⟩
section
open Go.RowKit Go.Proofs Go
theorem qB7 (s:ByteArray) (h:s.size=0):s=ByteArray.empty:=by
 apply ByteArray.ext
 have:s.data.size=0:=h
 exact Array.eq_empty_of_size_eq_zero this
theorem qC9 (b:Nat) (p v:Value) (s:ByteArray) (w:World) (hbk:w.heap[b]? = some (.cells #[p,v] 139 (0,0))) (hown:w.ownsRow 0 5 1 v s.size (Go.Lib.strCells s)) (hne:v.ownBlock≠some b) (hz:s.size=0→v=.slice none 0 0) :
  Calls Tryz.prog 92 #[.pointer (some ⟨b,0,none⟩)] w fun e w'=>e=.returned (.string s)∧w'.os=w.os∧w'.tape=w.tape∧w'.output=w.output∧w.heap.size≤w'.heap.size∧(∀ k,k < w.heap.size→k≠b→v.ownBlock≠some k→w'.heap[k]? = w.heap[k]?):=by
 have mixed:Tryz.prog.follows .mixedOrders=true:=by kernel_rfl
 by_cases h0:s.size=0
 ·have hs:=qB7 s h0
  subst hs
  have hv:=hz h0
  subst hv
  have hUS:∀ (W:World) (q:Option Addr),(Builtin.unsafeString_ #[241,3] 9 #[.pointer q,.int .i64 0]).run Tryz.prog W=.ok (.string .empty) W:=fun W q=>Go.Lib.run_unsafeString_none W _ _ _ q
  have c1:w.drew.cell? ⟨b,1,none⟩=some (.slice none 0 0):=by
   have:w.drew.heap[b]? = some (.cells #[p,.slice none 0 0] 139 (0,0)):=hbk
   rw [Go.Lib.cell_of_heap this]; rfl
  have hSD:(Builtin.unsafeSliceData_ #[22] 241 #[.slice none 0 0]).run Tryz.prog w.drew=.ok (.pointer none) w.drew:=rfl
  go_enter Tryz.func92,Tryz.ntmps92
  go_wp2
  go_region_o
  all_goals (go_wp2; go_ret; exact ⟨rfl,rfl,rfl,rfl,Nat.le_refl _,fun _ _ _ _=>rfl⟩)
 ·have hl:s.data.toList.length=s.size:=rfl
  have hl0:s.data.toList≠[]:=fun q=>h0 (by
   rw [q] at hl
   exact hl.symm)
  obtain ⟨g,cap,cur,rfl,hbg,hg,hnc,hcm,hcs,htake⟩:∃ g cap cur,v=.slice (some ⟨g,0,none⟩) s.size cap∧0≤g∧w.heap[g]? = some (.cells cur 5 (0,0))∧s.size≤cap∧cap≤maxLen∧cur.size=cap * 1∧cur.toList.take (s.size * 1)=Go.Lib.strCells s:=by
   rcases hown.2 with ⟨_,hz⟩ | ⟨g,cap,cur,hv,r⟩
   ·exact absurd hz h0
   ·exact ⟨g,cap,cur,hv,r⟩
  have c1:w.drew.cell? ⟨b,1,none⟩=some (.slice (some ⟨g,0,none⟩) s.size cap):=by
   have:w.drew.heap[b]? = some (.cells #[p,.slice (some ⟨g,0,none⟩) s.size cap] 139 (0,0)):=hbk
   rw [Go.Lib.cell_of_heap this]; rfl
  have hSD:(Builtin.unsafeSliceData_ #[22] 241 #[.slice (some ⟨g,0,none⟩) s.size cap]).run Tryz.prog w.drew=.ok (.pointer (some ⟨g,0,none⟩)) w.drew:=
   Go.Lib.run_unsafeSliceData_row _ _ _ _ _ _ (by omega)
  have hUS:(Builtin.unsafeString_ #[241,3] 9 #[.pointer (some ⟨g,0,none⟩),.int .i64 s.size]).run Tryz.prog w.drew=.ok (.string s) (w.drew.freeze ⟨g,0,none⟩ s.size):=by
   have:=Go.Lib.run_unsafeString_row (P:=Tryz.prog) w.drew 241 3 9 5 Tryz.underlying241 (by kernel_rfl) g cur.size (by have hg':w.drew.heap[g]? = some (.cells cur 5 (0,0)):=hg; simp [World.shape?,hg']) s.data.toList hl0 (by omega) (by unfold maxLen at hcm; omega) (fun j x hx=>by
    have:=hown.cells (g:=g) rfl j (.int .u8 x.toNat) (by simp only [Go.Lib.strCells,List.getElem?_map,hx,Option.map_some])
    exact this)
   rw [hl] at this
   rw [this]
  have hfr:∀ k,k≠g→(w.drew.freeze ⟨g,0,none⟩ s.size).heap[k]? = w.heap[k]?:=fun k hk=>by
   unfold World.freeze
   rw [if_neg h0]
   simp only [Array.getElem?_modify]
   rw [if_neg (fun q=>hk q.symm)]
   rfl
  have hsz:(w.drew.freeze ⟨g,0,none⟩ s.size).heap.size=w.heap.size:=by
   unfold World.freeze
   rw [if_neg h0]
   exact Array.size_modify
  have ho:(w.drew.freeze ⟨g,0,none⟩ s.size).os=w.os∧(w.drew.freeze ⟨g,0,none⟩ s.size).tape=w.tape∧(w.drew.freeze ⟨g,0,none⟩ s.size).output=w.output:=by
   unfold World.freeze
   rw [if_neg h0]
   exact ⟨rfl,rfl,rfl⟩
  go_enter Tryz.func92,Tryz.ntmps92
  go_wp2
  go_region_o
  all_goals (go_wp2; go_ret; exact ⟨rfl,ho.1,ho.2.1,ho.2.2,Nat.le_of_eq hsz.symm,fun k _ _ hk=>hfr k (fun q=>hk (by rw [q]; rfl))⟩)
end
theorem qK0 (b:ByteArray) (r':ByteArray) (h0':wA b=some r'):Fn X 92 [.one (.bld 139 5 b)] [.one (.sc (.string r'))] []:=by
 obtain rfl:=zso h0'
 exact Fn_bldString ⟨_,Go.Proofs.Tryz.func92,rfl,rfl⟩ (fun bb p v w h1 h2 h3 h4=>qC9 bb p v b w h1 h2 h3 h4)
instance:∀ b,Wlk X (wA b) 92 [0] [.one (.bld 139 5 b)] (fun r'=>[.one (.sc (.string r'))]) (fun r'=>[]):=fun b=>⟨fun r' h=>qK0 b r' h⟩
instance W_impl_listText:∀ list_,Wlk X (zR6 list_) 111 [] [.one (.list false 1 (List.map (rK .i64) list_))] (fun r'=>[.one (.sc (.string r'))]) (fun r'=>[]):=fun list_=>by
 refine ws f111 21 [.tmp 2] (h2 t3 (h2 t39 (h2 t139 qM))) ?_
 intro r'; unfold zR6
 refine go ?_
 refine lf ?_ (fun a g=>opsV_bldN a 5 g)
 refine go ?_; intro x8
 refine go ?_; intro x9
 refine go ?_
 refine jn (fun e'=>∃ b,zZ9 b=some r'∧e'=⟨21,1,2,[(3,.pl (.one (.ref 1 [])))],[(1,.bld 139 5 b)]⟩) ?_ ?_
 ·refine go ?_
  refine lp (fun s' e'=>∃ x12 b_1,s'=(x12,b_1)∧e'=⟨21,1,2,[(3,.pl (.one (.ref 1 []))),(10,.pl (.one (.v (.list false 1 (List.map (rK .i64) list_))))),(11,.pl (.one (.v (.sc (.int .i64 (list_.length:Int)))))),(12,.pl (.one (.v (.sc (.int .i64 x12)))))],[(1,.bld 139 5 b_1)]⟩) [3,10,11,12] [(1,1)] 2 ⟨_,_,rfl,rfl⟩ ?_
  rintro s' _ ⟨x12,b_1,rfl,rfl⟩ y1'
  change Tl _ (yD list_ x12 b_1) _ _; unfold yD
  refine go ?_
  refine sq ?_
  refine go ?_
  refine sp ?_ ?_
  ·refine go ?_
   refine sq ?_
   refine go ?_; intro x v'
   refine go ?_; intro x17
   refine go ?_; intro x18
   refine go ?_
   exact bk [3,10,11,12] [(1,1)] 2 ⟨_,_,rfl,rfl⟩
  ·refine go ?_
   exact je [3] [(1,1)] 2 fun h=>⟨_,h,rfl⟩
 ·rintro e' ⟨b,h,rfl⟩; refine tl h ?_; unfold zZ9
  refine go ?_; intro x20
  exact gz
instance W_impl_Weave_linesAt:∀ w places,Wlk X (uN w places) 192 [] [.one (.box false [.list false 1 (List.map (rL false 1 (rK .i64)) w.Parents),.list false 4 (List.map (zA false) w.Bodies)]),.one (.list false 1 (List.map (rK .i64) places))] (fun r'=>[.one (.list true 1 (List.map rS r'))]) (fun r'=>[]):=fun w places=>by
 refine ws f192 27 [.tmp 4] (h2 t3 (h2 t9 (h2 t25 (h2 t27 (h2 t36 (h2 t39 (h2 t46 (h2 jF (h2 zL (h2 qM R_s)))))))))) ?_
 intro r'; unfold uN
 refine go ?_
 refine l1 ?_
 refine go ?_
 refine l1 ?_
 refine go ?_
 refine jn (fun e'=>∃ out_,zO1 out_=some r'∧e'=⟨27,2,3,[(5,.pl (.one (.ref 2 [])))],[(2,.list true 1 (List.map rS out_))]⟩) ?_ ?_
 ·refine go ?_
  refine lp (fun s' e'=>∃ x10 out__1,s'=(x10,out__1)∧e'=⟨27,2,3,[(0,.pl (.one (.v (.box false [.list false 1 (List.map (rL false 1 (rK .i64)) w.Parents),.list false 4 (List.map (zA false) w.Bodies)])))),(5,.pl (.one (.ref 2 []))),(8,.pl (.one (.v (.list false 1 (List.map (rK .i64) places))))),(9,.pl (.one (.v (.sc (.int .i64 (places.length:Int)))))),(10,.pl (.one (.v (.sc (.int .i64 x10)))))],[(2,.list true 1 (List.map rS out__1))]⟩) [0,5,8,9,10] [(3,2)] 3 ⟨_,_,rfl,rfl⟩ ?_
  rintro s' _ ⟨x10,out__1,rfl,rfl⟩ y1'
  change Tl _ (jZ w places x10 out__1) _ _; unfold jZ
  refine go ?_
  refine sq ?_
  refine go ?_
  refine sp ?_ ?_
  ·refine go ?_
   refine sq ?_
   refine go ?_; intro x v'
   refine go ?_; intro x_1 v'
   refine go ?_; intro l v'
   refine go ?_
   exact bk [0,5,8,9,10] [(2,2)] 3 ⟨_,_,rfl,rfl⟩
  ·refine go ?_
   exact je [5] [(2,2)] 3 fun h=>⟨_,h,rfl⟩
 ·rintro e' ⟨out_,h,rfl⟩; refine tl h ?_; unfold zO1
  exact gz
instance W_impl_Weave_extract:∀ w v,Wlk X (kM w v) 81 [] [.one (.box false [.list false 1 (List.map (rL false 1 (rK .i64)) w.Parents),.list false 4 (List.map (zA false) w.Bodies)]),.one (.sc (.int .i64 v))] (fun r'=>[.one (.list true 1 (List.map rS r'))]) (fun r'=>[]):=fun w v=>by
 refine ws f81 17 [.tmp 4] (h2 t24 (h2 t27 (h2 t124 (h2 t125 (h2 jF (h2 zL (h2 qM (h2 R_s R_u64)))))))) ?_
 intro r'; unfold kM
 refine go ?_
 refine l1 ?_
 refine go ?_; intro x11
 refine go ?_; intro x v'
 refine go ?_; intro x15
 refine go ?_; intro x16
 exact gz
instance W_impl_joinLines:∀ list_,Wlk X (zH0 list_) 113 [] [.one (.list false 1 (List.map rS list_))] (fun r'=>[.one (.sc (.string r'))]) (fun r'=>[]):=fun list_=>by
 refine ws f113 17 [.tmp 2] (h2 t3 (h2 t9 (h2 t36 (h2 t139 R_s)))) ?_
 intro r'; unfold zH0
 refine go ?_
 refine lf ?_ (fun a g=>opsV_bldN a 5 g)
 refine go ?_
 refine jn (fun e'=>∃ b,zX6 b=some r'∧e'=⟨17,1,2,[(3,.pl (.one (.ref 1 [])))],[(1,.bld 139 5 b)]⟩) ?_ ?_
 ·refine go ?_
  refine lp (fun s' e'=>∃ x8 b_1,s'=(x8,b_1)∧e'=⟨17,1,2,[(3,.pl (.one (.ref 1 []))),(6,.pl (.one (.v (.list false 1 (List.map rS list_))))),(7,.pl (.one (.v (.sc (.int .i64 (list_.length:Int)))))),(8,.pl (.one (.v (.sc (.int .i64 x8)))))],[(1,.bld 139 5 b_1)]⟩) [3,6,7,8] [(1,1)] 2 ⟨_,_,rfl,rfl⟩ ?_
  rintro s' _ ⟨x8,b_1,rfl,rfl⟩ y1'
  change Tl _ (wH list_ x8 b_1) _ _; unfold wH
  refine go ?_
  refine sq ?_
  refine go ?_
  refine sp ?_ ?_
  ·refine go ?_
   refine sq ?_
   refine go ?_; intro x v'
   refine go ?_; intro t v'
   refine go ?_; intro x14
   refine go ?_
   exact bk [3,6,7,8] [(1,1)] 2 ⟨_,_,rfl,rfl⟩
  ·refine go ?_
   exact je [3] [(1,1)] 2 fun h=>⟨_,h,rfl⟩
 ·rintro e' ⟨b,h,rfl⟩; refine tl h ?_; unfold zX6
  refine go ?_; intro x16
  exact gz
end Go.TV.KFnWoven
