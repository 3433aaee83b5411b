/- Walks. -/
import Derived.Test.YtbapbpnchdpbhaaGreatKFnRecordsE
import Derived.Test.YtbapbpnchdpbhaaGreatKFnRecordsW0
set_option linter.unusedVariables false
set_option linter.unusedSimpArgs false
set_option maxHeartbeats 8000000
set_option maxRecDepth 100000
namespace Go.TV.KFnRecords
attribute [local irreducible] wpV opsV Does thenV blockV RetL quV seqV Cy lpP cutP cutQ
open Go.Proofs.Tryz Go.TV.F
instance W_spec_l06Right:∀ c n,Wlk X (spec_l06Right c n) 66 [0] [.one (.box true [.list false 1 (List.map (rK .u8) c.b),.sc (.int .i64 c.i),.sc (.int .i64 c.h)]),.one (.sc (.int .i64 n))] (fun r'=>[.agg [.list true 1 (List.map (rL true 1 (rK .i64)) r'.1.Parents),.list true 4 (List.map (zA true) r'.1.Bodies)]]) (fun r'=>[(0,.box true [.list false 1 (List.map (rK .u8) r'.2.b),.sc (.int .i64 r'.2.i),.sc (.int .i64 r'.2.h)])]):=fun c n=>by
 refine ws f66 53 [.cell 4 27] (h2 t3 (h2 t9 (h2 t24 (h2 t25 (h2 t27 (h2 t36 (h2 R_Li64 (h2 zV (h2 R_i64 (h2 R_s R_u8)))))))))) ?_
 intro r'; unfold spec_l06Right
 refine go ?_
 refine l1 ?_
 refine go ?_
 refine l1 ?_
 refine go ?_
 refine jn (fun e'=>∃ c_1 c_2 c_3 w w_1,spec_l06Right_j1 c_1 c_2 c_3 w w_1=some r'∧e'=⟨53,2,4,[(4,.pl (.one (.ref 2 []))),(5,.pl (.one (.ref 3 [])))],[(0,.box true [.list false 1 (List.map (rK .u8) c_1),.sc (.int .i64 c_2),.sc (.int .i64 c_3)]),(2,.box true [.list true 1 (List.map (rL true 1 (rK .i64)) []),.list true 4 (List.map (zA true) [])]),(3,.box true [.list true 1 (List.map (rL true 1 (rK .i64)) w),.list true 4 (List.map (zA true) w_1)])]⟩) ?_ ?_
 ·refine go ?_
  refine lp (fun s' e'=>∃ v c_4 c_5 c_6 w_2 w_3,s'=(v,c_4,c_5,c_6,w_2,w_3)∧e'=⟨53,2,4,[(0,.pl (.one (.ref 0 []))),(1,.pl (.one (.v (.sc (.int .i64 n))))),(4,.pl (.one (.ref 2 []))),(5,.pl (.one (.ref 3 []))),(6,.pl (.one (.v (.sc (.int .i64 v)))))],[(0,.box true [.list false 1 (List.map (rK .u8) c_4),.sc (.int .i64 c_5),.sc (.int .i64 c_6)]),(2,.box true [.list true 1 (List.map (rL true 1 (rK .i64)) []),.list true 4 (List.map (zA true) [])]),(3,.box true [.list true 1 (List.map (rL true 1 (rK .i64)) w_2),.list true 4 (List.map (zA true) w_3)])]⟩) [0,1,4,5,6] [(0,0),(2,2),(3,3)] 4 ⟨_,_,_,_,_,_,rfl,rfl⟩ ?_
  rintro s' _ ⟨v,c_4,c_5,c_6,w_2,w_3,rfl,rfl⟩ y1'
  change Tl _ (spec_l06Right_l1 n v c_4 c_5 c_6 w_2 w_3) _ _; unfold spec_l06Right_l1
  refine sq ?_
  refine go ?_
  refine sp ?_ ?_
  ·refine go ?_
   refine sq ?_
   refine go ?_; intro x20
   refine go ?_
   refine bx ?_; intro x25 hy_x25
   refine bx ?_; intro x26 hy_x26
   refine bx ?_; intro x27 hy_x27
   refine jr (fun e'=>e'=⟨53,2,6,[(0,.pl (.one (.ref 0 []))),(1,.pl (.one (.v (.sc (.int .i64 n))))),(4,.pl (.one (.ref 2 []))),(5,.pl (.one (.ref 3 []))),(6,.pl (.one (.v (.sc (.int .i64 v))))),(7,.pl (.one (.ref 4 []))),(8,.pl (.one (.ref 5 [])))],[(0,.box true [.list false 1 (List.map (rK .u8) x27.2.b),.sc (.int .i64 x27.2.i),.sc (.int .i64 x27.2.h)]),(2,.box true [.list true 1 (List.map (rL true 1 (rK .i64)) []),.list true 4 (List.map (zA true) [])]),(3,.box true [.list true 1 (List.map (rL true 1 (rK .i64)) w_2),.list true 4 (List.map (zA true) w_3)]),(4,.list true 1 (List.map (rK .i64) x20.1)),(5,.list true 1 (List.map rS x27.1))]⟩) ?_ ?_
   ·refine t0 fun H'=>?_
    refine regAnyF [] ?_
    refine (?_:anyF X ?o0 _ _ ?P0 _)
    have d0':anyF X ?o0 [0,1,2,3,4,5,6,7] [] ?P0 ⟨53,2,6,[(0,.pl (.one (.ref 0 []))),(1,.pl (.one (.v (.sc (.int .i64 n))))),(4,.pl (.one (.ref 2 []))),(5,.pl (.one (.ref 3 []))),(6,.pl (.one (.v (.sc (.int .i64 v))))),(7,.pl (.one (.ref 4 []))),(8,.pl (.one (.ref 5 [])))],[(0,.box true [.list false 1 (List.map (rK .u8) x27.2.b),.sc (.int .i64 x27.2.i),.sc (.int .i64 x27.2.h)]),(2,.box true [.list true 1 (List.map (rL true 1 (rK .i64)) []),.list true 4 (List.map (zA true) [])]),(3,.box true [.list true 1 (List.map (rL true 1 (rK .i64)) w_2),.list true 4 (List.map (zA true) w_3)]),(4,.list true 1 (List.map (rK .i64) x20.1)),(5,.list true 1 (List.map rS x27.1))]⟩:=by
     refine fend (e2:=⟨53,2,6,[(0,.pl (.one (.ref 0 []))),(1,.pl (.one (.v (.sc (.int .i64 n))))),(4,.pl (.one (.ref 2 []))),(5,.pl (.one (.ref 3 []))),(6,.pl (.one (.v (.sc (.int .i64 v))))),(7,.pl (.one (.ref 4 []))),(8,.pl (.one (.ref 5 [])))],[(0,.box true [.list false 1 (List.map (rK .u8) x27.2.b),.sc (.int .i64 x27.2.i),.sc (.int .i64 x27.2.h)]),(2,.box true [.list true 1 (List.map (rL true 1 (rK .i64)) []),.list true 4 (List.map (zA true) [])]),(3,.box true [.list true 1 (List.map (rL true 1 (rK .i64)) w_2),.list true 4 (List.map (zA true) w_3)]),(4,.list true 1 (List.map (rK .i64) x20.1)),(5,.list true 1 (List.map rS x27.1))]⟩) [] [] [] [] trivial (cpN (shd [0,1,4,5,6,7,8] [(0,0),(2,2),(3,3),(4,4),(5,5)] 6 rfl))
    have d1':anyF X ?o0 [0,1,2,3,4,5,6] [] ?P0 ⟨53,2,6,[(0,.pl (.one (.ref 0 []))),(1,.pl (.one (.v (.sc (.int .i64 n))))),(4,.pl (.one (.ref 2 []))),(5,.pl (.one (.ref 3 []))),(6,.pl (.one (.v (.sc (.int .i64 v))))),(7,.pl (.one (.ref 4 []))),(27,.pl (.one (.ref 5 [])))],[(0,.box true [.list false 1 (List.map (rK .u8) x27.2.b),.sc (.int .i64 x27.2.i),.sc (.int .i64 x27.2.h)]),(2,.box true [.list true 1 (List.map (rL true 1 (rK .i64)) []),.list true 4 (List.map (zA true) [])]),(3,.box true [.list true 1 (List.map (rL true 1 (rK .i64)) w_2),.list true 4 (List.map (zA true) w_3)]),(4,.list true 1 (List.map (rK .i64) x20.1)),(5,.list true 1 (List.map rS x27.1))]⟩:=by
     refine fnode [] [.m 7 [] [0,1,2,3,4,5,6,7] []] [] [(7,false,[],[0,1,2,3,4,5,6,7])] ⟨?_,trivial⟩
     ·refine obMx ⟨53,2,6,[(0,.pl (.one (.ref 0 []))),(1,.pl (.one (.v (.sc (.int .i64 n))))),(4,.pl (.one (.ref 2 []))),(5,.pl (.one (.ref 3 []))),(6,.pl (.one (.v (.sc (.int .i64 v))))),(7,.pl (.one (.ref 4 []))),(27,.pl (.one (.ref 5 [])))],[(0,.box true [.list false 1 (List.map (rK .u8) x27.2.b),.sc (.int .i64 x27.2.i),.sc (.int .i64 x27.2.h)]),(2,.box true [.list true 1 (List.map (rL true 1 (rK .i64)) []),.list true 4 (List.map (zA true) [])]),(3,.box true [.list true 1 (List.map (rL true 1 (rK .i64)) w_2),.list true 4 (List.map (zA true) w_3)]),(4,.list true 1 (List.map (rK .i64) x20.1)),(5,.list true 1 (List.map rS x27.1))]⟩ ?_
      refine ops H' ?_
      refine opsV_nil ⟨rfl,.inl ⟨rfl,?_⟩⟩
      exact anyFShd [0,1,4,5,6,7,8] [(0,0),(2,2),(3,3),(4,4),(5,5)] 6 d0'
    have d2':anyF X ?o0 [0,1,2,3,4,5] [] ?P0 ⟨53,2,6,[(0,.pl (.one (.ref 0 []))),(1,.pl (.one (.v (.sc (.int .i64 n))))),(4,.pl (.one (.ref 2 []))),(5,.pl (.one (.ref 3 []))),(6,.pl (.one (.v (.sc (.int .i64 v))))),(7,.pl (.one (.ref 4 []))),(21,.pl (.one (.ref 0 []))),(26,.pl (.one (.ref 5 [])))],[(0,.box true [.list false 1 (List.map (rK .u8) x20.2.b),.sc (.int .i64 x20.2.i),.sc (.int .i64 x20.2.h)]),(2,.box true [.list true 1 (List.map (rL true 1 (rK .i64)) []),.list true 4 (List.map (zA true) [])]),(3,.box true [.list true 1 (List.map (rL true 1 (rK .i64)) w_2),.list true 4 (List.map (zA true) w_3)]),(4,.list true 1 (List.map (rK .i64) x20.1)),(5,.list true 1 (List.map rS x26))]⟩:=by
     refine fnode [] [.m 6 [] [0,1,2,3,4,5,6] []] [] [(6,false,[],[0,1,2,3,4,5,6])] ⟨?_,trivial⟩
     ·refine obMx ⟨53,2,6,[(0,.pl (.one (.ref 0 []))),(1,.pl (.one (.v (.sc (.int .i64 n))))),(4,.pl (.one (.ref 2 []))),(5,.pl (.one (.ref 3 []))),(6,.pl (.one (.v (.sc (.int .i64 v))))),(7,.pl (.one (.ref 4 []))),(21,.pl (.one (.ref 0 []))),(26,.pl (.one (.ref 5 [])))],[(0,.box true [.list false 1 (List.map (rK .u8) x20.2.b),.sc (.int .i64 x20.2.i),.sc (.int .i64 x20.2.h)]),(2,.box true [.list true 1 (List.map (rL true 1 (rK .i64)) []),.list true 4 (List.map (zA true) [])]),(3,.box true [.list true 1 (List.map (rL true 1 (rK .i64)) w_2),.list true 4 (List.map (zA true) w_3)]),(4,.list true 1 (List.map (rK .i64) x20.1)),(5,.list true 1 (List.map rS x26))]⟩ ?_
      refine opsV_frz H' 5 ?_
      refine callGD H' (fun _=>[0]) ((W_spec_l04Near _ _).w _ hy_x27) ?_
      refine opsV_nil ⟨rfl,.inl ⟨rfl,?_⟩⟩
      exact anyFShd [0,1,4,5,6,7,27] [(0,0),(2,2),(3,3),(4,4),(6,5)] 6 d1'
    have d3':anyF X ?o0 [0,1,2,3,4] [] ?P0 ⟨53,2,6,[(0,.pl (.one (.ref 0 []))),(1,.pl (.one (.v (.sc (.int .i64 n))))),(4,.pl (.one (.ref 2 []))),(5,.pl (.one (.ref 3 []))),(6,.pl (.one (.v (.sc (.int .i64 v))))),(7,.pl (.one (.ref 4 []))),(21,.pl (.one (.ref 0 []))),(22,.pl (.agg [.ref 3 [(0,0,0)],.ref 3 [(0,0,1)]])),(25,.pl (.one (.ref 5 [])))],[(0,.box true [.list false 1 (List.map (rK .u8) x20.2.b),.sc (.int .i64 x20.2.i),.sc (.int .i64 x20.2.h)]),(2,.box true [.list true 1 (List.map (rL true 1 (rK .i64)) []),.list true 4 (List.map (zA true) [])]),(3,.box true [.list true 1 (List.map (rL true 1 (rK .i64)) w_2),.list true 4 (List.map (zA true) w_3)]),(4,.list true 1 (List.map (rK .i64) x20.1)),(5,.list true 1 (List.map (rK .i64) x25))]⟩:=by
     refine fnode [] [.m 5 [] [0,1,2,3,4,5] []] [] [(5,false,[],[0,1,2,3,4,5])] ⟨?_,trivial⟩
     ·refine obMx ⟨53,2,6,[(0,.pl (.one (.ref 0 []))),(1,.pl (.one (.v (.sc (.int .i64 n))))),(4,.pl (.one (.ref 2 []))),(5,.pl (.one (.ref 3 []))),(6,.pl (.one (.v (.sc (.int .i64 v))))),(7,.pl (.one (.ref 4 []))),(21,.pl (.one (.ref 0 []))),(22,.pl (.agg [.ref 3 [(0,0,0)],.ref 3 [(0,0,1)]])),(25,.pl (.one (.ref 5 [])))],[(0,.box true [.list false 1 (List.map (rK .u8) x20.2.b),.sc (.int .i64 x20.2.i),.sc (.int .i64 x20.2.h)]),(2,.box true [.list true 1 (List.map (rL true 1 (rK .i64)) []),.list true 4 (List.map (zA true) [])]),(3,.box true [.list true 1 (List.map (rL true 1 (rK .i64)) w_2),.list true 4 (List.map (zA true) w_3)]),(4,.list true 1 (List.map (rK .i64) x20.1)),(5,.list true 1 (List.map (rK .i64) x25))]⟩ ?_
      refine callG H' (fun _=>[]) ((W_spec_l06Lines _ _).w _ hy_x26) ?_
      refine opsV_nil ⟨rfl,.inl ⟨rfl,?_⟩⟩
      exact anyFShd [0,1,4,5,6,7,21,26] [(0,0),(2,2),(3,3),(4,4),(6,5)] 6 d2'
    have d4':anyF X ?o0 [0,1,2,3] [] ?P0 ⟨53,2,5,[(0,.pl (.one (.ref 0 []))),(1,.pl (.one (.v (.sc (.int .i64 n))))),(4,.pl (.one (.ref 2 []))),(5,.pl (.one (.ref 3 []))),(6,.pl (.one (.v (.sc (.int .i64 v))))),(7,.pl (.one (.ref 4 []))),(21,.pl (.one (.ref 0 []))),(22,.pl (.agg [.ref 3 [(0,0,0)],.ref 3 [(0,0,1)]])),(23,.pl (.agg [.ref 3 [(0,0,0)],.ref 3 [(0,0,1)]])),(24,.pl (.one (.ref 4 [])))],[(0,.box true [.list false 1 (List.map (rK .u8) x20.2.b),.sc (.int .i64 x20.2.i),.sc (.int .i64 x20.2.h)]),(2,.box true [.list true 1 (List.map (rL true 1 (rK .i64)) []),.list true 4 (List.map (zA true) [])]),(3,.box true [.list true 1 (List.map (rL true 1 (rK .i64)) w_2),.list true 4 (List.map (zA true) w_3)]),(4,.list true 1 (List.map (rK .i64) x20.1))]⟩:=by
     refine fnode [] [.m 4 [] [0,1,2,3,4] []] [] [(4,false,[],[0,1,2,3,4])] ⟨?_,trivial⟩
     ·refine obMx ⟨53,2,5,[(0,.pl (.one (.ref 0 []))),(1,.pl (.one (.v (.sc (.int .i64 n))))),(4,.pl (.one (.ref 2 []))),(5,.pl (.one (.ref 3 []))),(6,.pl (.one (.v (.sc (.int .i64 v))))),(7,.pl (.one (.ref 4 []))),(21,.pl (.one (.ref 0 []))),(22,.pl (.agg [.ref 3 [(0,0,0)],.ref 3 [(0,0,1)]])),(23,.pl (.agg [.ref 3 [(0,0,0)],.ref 3 [(0,0,1)]])),(24,.pl (.one (.ref 4 [])))],[(0,.box true [.list false 1 (List.map (rK .u8) x20.2.b),.sc (.int .i64 x20.2.i),.sc (.int .i64 x20.2.h)]),(2,.box true [.list true 1 (List.map (rL true 1 (rK .i64)) []),.list true 4 (List.map (zA true) [])]),(3,.box true [.list true 1 (List.map (rL true 1 (rK .i64)) w_2),.list true 4 (List.map (zA true) w_3)]),(4,.list true 1 (List.map (rK .i64) x20.1))]⟩ ?_
      refine callG H' (fun _=>[]) ((W_spec_l06Seen _ _).w _ hy_x25) ?_
      refine opsV_nil ⟨rfl,.inl ⟨rfl,?_⟩⟩
      exact anyFShd [0,1,4,5,6,7,21,22,25] [(0,0),(2,2),(3,3),(4,4),(5,5)] 6 d3'
    have d5':anyF X ?o0 [0,1,3] [] ?P0 ⟨53,2,5,[(0,.pl (.one (.ref 0 []))),(1,.pl (.one (.v (.sc (.int .i64 n))))),(4,.pl (.one (.ref 2 []))),(5,.pl (.one (.ref 3 []))),(6,.pl (.one (.v (.sc (.int .i64 v))))),(7,.pl (.one (.ref 4 []))),(21,.pl (.one (.ref 0 []))),(22,.pl (.agg [.ref 3 [(0,0,0)],.ref 3 [(0,0,1)]])),(24,.pl (.one (.ref 4 [])))],[(0,.box true [.list false 1 (List.map (rK .u8) x20.2.b),.sc (.int .i64 x20.2.i),.sc (.int .i64 x20.2.h)]),(2,.box true [.list true 1 (List.map (rL true 1 (rK .i64)) []),.list true 4 (List.map (zA true) [])]),(3,.box true [.list true 1 (List.map (rL true 1 (rK .i64)) w_2),.list true 4 (List.map (zA true) w_3)]),(4,.list true 1 (List.map (rK .i64) x20.1))]⟩:=by
     refine fnode [] [.m 2 [] [0,1,2,3] []] [] [(2,false,[],[0,1,2,3])] ⟨?_,trivial⟩
     ·refine obMx ⟨53,2,5,[(0,.pl (.one (.ref 0 []))),(1,.pl (.one (.v (.sc (.int .i64 n))))),(4,.pl (.one (.ref 2 []))),(5,.pl (.one (.ref 3 []))),(6,.pl (.one (.v (.sc (.int .i64 v))))),(7,.pl (.one (.ref 4 []))),(21,.pl (.one (.ref 0 []))),(22,.pl (.agg [.ref 3 [(0,0,0)],.ref 3 [(0,0,1)]])),(24,.pl (.one (.ref 4 [])))],[(0,.box true [.list false 1 (List.map (rK .u8) x20.2.b),.sc (.int .i64 x20.2.i),.sc (.int .i64 x20.2.h)]),(2,.box true [.list true 1 (List.map (rL true 1 (rK .i64)) []),.list true 4 (List.map (zA true) [])]),(3,.box true [.list true 1 (List.map (rL true 1 (rK .i64)) w_2),.list true 4 (List.map (zA true) w_3)]),(4,.list true 1 (List.map (rK .i64) x20.1))]⟩ ?_
      refine ops H' ?_
      refine opsV_nil ⟨rfl,.inl ⟨rfl,?_⟩⟩
      exact anyFShd [0,1,4,5,6,7,21,22,23,24] [(0,0),(2,2),(3,3),(4,4)] 5 d4'
    have d6':anyF X ?o0 [0,2,3,4] [] ?P0 ⟨53,2,6,[(0,.pl (.one (.ref 0 []))),(1,.pl (.one (.v (.sc (.int .i64 n))))),(4,.pl (.one (.ref 2 []))),(5,.pl (.one (.ref 3 []))),(6,.pl (.one (.v (.sc (.int .i64 v))))),(7,.pl (.one (.ref 4 []))),(21,.pl (.one (.ref 0 []))),(25,.pl (.one (.ref 5 [])))],[(0,.box true [.list false 1 (List.map (rK .u8) x20.2.b),.sc (.int .i64 x20.2.i),.sc (.int .i64 x20.2.h)]),(2,.box true [.list true 1 (List.map (rL true 1 (rK .i64)) []),.list true 4 (List.map (zA true) [])]),(3,.box true [.list true 1 (List.map (rL true 1 (rK .i64)) w_2),.list true 4 (List.map (zA true) w_3)]),(4,.list true 1 (List.map (rK .i64) x20.1)),(5,.list true 1 (List.map (rK .i64) x25))]⟩:=by
     refine fnode [] [.m 1 [] [0,1,2,3,4] []] [] [(1,false,[],[0,1,2,3,4])] ⟨?_,trivial⟩
     ·refine obMx ⟨53,2,6,[(0,.pl (.one (.ref 0 []))),(1,.pl (.one (.v (.sc (.int .i64 n))))),(4,.pl (.one (.ref 2 []))),(5,.pl (.one (.ref 3 []))),(6,.pl (.one (.v (.sc (.int .i64 v))))),(7,.pl (.one (.ref 4 []))),(21,.pl (.one (.ref 0 []))),(25,.pl (.one (.ref 5 [])))],[(0,.box true [.list false 1 (List.map (rK .u8) x20.2.b),.sc (.int .i64 x20.2.i),.sc (.int .i64 x20.2.h)]),(2,.box true [.list true 1 (List.map (rL true 1 (rK .i64)) []),.list true 4 (List.map (zA true) [])]),(3,.box true [.list true 1 (List.map (rL true 1 (rK .i64)) w_2),.list true 4 (List.map (zA true) w_3)]),(4,.list true 1 (List.map (rK .i64) x20.1)),(5,.list true 1 (List.map (rK .i64) x25))]⟩ ?_
      refine ops H' ?_
      refine opsV_nil ⟨rfl,.inl ⟨rfl,?_⟩⟩
      exact anyFShd [0,1,4,5,6,7,21,22,25] [(0,0),(2,2),(3,3),(4,4),(5,5)] 6 d3'
    have d7':anyF X ?o0 [0,2,3] [] ?P0 ⟨53,2,5,[(0,.pl (.one (.ref 0 []))),(1,.pl (.one (.v (.sc (.int .i64 n))))),(4,.pl (.one (.ref 2 []))),(5,.pl (.one (.ref 3 []))),(6,.pl (.one (.v (.sc (.int .i64 v))))),(7,.pl (.one (.ref 4 []))),(21,.pl (.one (.ref 0 []))),(23,.pl (.agg [.ref 3 [(0,0,0)],.ref 3 [(0,0,1)]])),(24,.pl (.one (.ref 4 [])))],[(0,.box true [.list false 1 (List.map (rK .u8) x20.2.b),.sc (.int .i64 x20.2.i),.sc (.int .i64 x20.2.h)]),(2,.box true [.list true 1 (List.map (rL true 1 (rK .i64)) []),.list true 4 (List.map (zA true) [])]),(3,.box true [.list true 1 (List.map (rL true 1 (rK .i64)) w_2),.list true 4 (List.map (zA true) w_3)]),(4,.list true 1 (List.map (rK .i64) x20.1))]⟩:=by
     refine fnode [] [.m 1 [] [0,1,2,3] [],.m 4 [] [0,2,3,4] []] [] [(1,false,[],[0,1,2,3]),(4,false,[],[0,2,3,4])] ⟨?_,?_,trivial⟩
     ·refine obMx ⟨53,2,5,[(0,.pl (.one (.ref 0 []))),(1,.pl (.one (.v (.sc (.int .i64 n))))),(4,.pl (.one (.ref 2 []))),(5,.pl (.one (.ref 3 []))),(6,.pl (.one (.v (.sc (.int .i64 v))))),(7,.pl (.one (.ref 4 []))),(21,.pl (.one (.ref 0 []))),(23,.pl (.agg [.ref 3 [(0,0,0)],.ref 3 [(0,0,1)]])),(24,.pl (.one (.ref 4 [])))],[(0,.box true [.list false 1 (List.map (rK .u8) x20.2.b),.sc (.int .i64 x20.2.i),.sc (.int .i64 x20.2.h)]),(2,.box true [.list true 1 (List.map (rL true 1 (rK .i64)) []),.list true 4 (List.map (zA true) [])]),(3,.box true [.list true 1 (List.map (rL true 1 (rK .i64)) w_2),.list true 4 (List.map (zA true) w_3)]),(4,.list true 1 (List.map (rK .i64) x20.1))]⟩ ?_
      refine ops H' ?_
      refine opsV_nil ⟨rfl,.inl ⟨rfl,?_⟩⟩
      exact anyFShd [0,1,4,5,6,7,21,22,23,24] [(0,0),(2,2),(3,3),(4,4)] 5 d4'
     ·refine obMx ⟨53,2,5,[(0,.pl (.one (.ref 0 []))),(1,.pl (.one (.v (.sc (.int .i64 n))))),(4,.pl (.one (.ref 2 []))),(5,.pl (.one (.ref 3 []))),(6,.pl (.one (.v (.sc (.int .i64 v))))),(7,.pl (.one (.ref 4 []))),(21,.pl (.one (.ref 0 []))),(23,.pl (.agg [.ref 3 [(0,0,0)],.ref 3 [(0,0,1)]])),(24,.pl (.one (.ref 4 [])))],[(0,.box true [.list false 1 (List.map (rK .u8) x20.2.b),.sc (.int .i64 x20.2.i),.sc (.int .i64 x20.2.h)]),(2,.box true [.list true 1 (List.map (rL true 1 (rK .i64)) []),.list true 4 (List.map (zA true) [])]),(3,.box true [.list true 1 (List.map (rL true 1 (rK .i64)) w_2),.list true 4 (List.map (zA true) w_3)]),(4,.list true 1 (List.map (rK .i64) x20.1))]⟩ ?_
      refine callG H' (fun _=>[]) ((W_spec_l06Seen _ _).w _ hy_x25) ?_
      refine opsV_nil ⟨rfl,.inl ⟨rfl,?_⟩⟩
      exact anyFShd [0,1,4,5,6,7,21,25] [(0,0),(2,2),(3,3),(4,4),(5,5)] 6 d6'
    have d8':anyF X ?o0 [0,3] [] ?P0 ⟨53,2,5,[(0,.pl (.one (.ref 0 []))),(1,.pl (.one (.v (.sc (.int .i64 n))))),(4,.pl (.one (.ref 2 []))),(5,.pl (.one (.ref 3 []))),(6,.pl (.one (.v (.sc (.int .i64 v))))),(7,.pl (.one (.ref 4 []))),(21,.pl (.one (.ref 0 []))),(24,.pl (.one (.ref 4 [])))],[(0,.box true [.list false 1 (List.map (rK .u8) x20.2.b),.sc (.int .i64 x20.2.i),.sc (.int .i64 x20.2.h)]),(2,.box true [.list true 1 (List.map (rL true 1 (rK .i64)) []),.list true 4 (List.map (zA true) [])]),(3,.box true [.list true 1 (List.map (rL true 1 (rK .i64)) w_2),.list true 4 (List.map (zA true) w_3)]),(4,.list true 1 (List.map (rK .i64) x20.1))]⟩:=by
     refine fnode [] [.m 1 [] [0,1,3] [],.m 2 [] [0,2,3] []] [] [(1,false,[],[0,1,3]),(2,false,[],[0,2,3])] ⟨?_,?_,trivial⟩
     ·refine obMx ⟨53,2,5,[(0,.pl (.one (.ref 0 []))),(1,.pl (.one (.v (.sc (.int .i64 n))))),(4,.pl (.one (.ref 2 []))),(5,.pl (.one (.ref 3 []))),(6,.pl (.one (.v (.sc (.int .i64 v))))),(7,.pl (.one (.ref 4 []))),(21,.pl (.one (.ref 0 []))),(24,.pl (.one (.ref 4 [])))],[(0,.box true [.list false 1 (List.map (rK .u8) x20.2.b),.sc (.int .i64 x20.2.i),.sc (.int .i64 x20.2.h)]),(2,.box true [.list true 1 (List.map (rL true 1 (rK .i64)) []),.list true 4 (List.map (zA true) [])]),(3,.box true [.list true 1 (List.map (rL true 1 (rK .i64)) w_2),.list true 4 (List.map (zA true) w_3)]),(4,.list true 1 (List.map (rK .i64) x20.1))]⟩ ?_
      refine ops H' ?_
      refine opsV_nil ⟨rfl,.inl ⟨rfl,?_⟩⟩
      exact anyFShd [0,1,4,5,6,7,21,22,24] [(0,0),(2,2),(3,3),(4,4)] 5 d5'
     ·refine obMx ⟨53,2,5,[(0,.pl (.one (.ref 0 []))),(1,.pl (.one (.v (.sc (.int .i64 n))))),(4,.pl (.one (.ref 2 []))),(5,.pl (.one (.ref 3 []))),(6,.pl (.one (.v (.sc (.int .i64 v))))),(7,.pl (.one (.ref 4 []))),(21,.pl (.one (.ref 0 []))),(24,.pl (.one (.ref 4 [])))],[(0,.box true [.list false 1 (List.map (rK .u8) x20.2.b),.sc (.int .i64 x20.2.i),.sc (.int .i64 x20.2.h)]),(2,.box true [.list true 1 (List.map (rL true 1 (rK .i64)) []),.list true 4 (List.map (zA true) [])]),(3,.box true [.list true 1 (List.map (rL true 1 (rK .i64)) w_2),.list true 4 (List.map (zA true) w_3)]),(4,.list true 1 (List.map (rK .i64) x20.1))]⟩ ?_
      refine ops H' ?_
      refine opsV_nil ⟨rfl,.inl ⟨rfl,?_⟩⟩
      exact anyFShd [0,1,4,5,6,7,21,23,24] [(0,0),(2,2),(3,3),(4,4)] 5 d7'
    refine fpure H' 0 [0] [] ?_
    refine fpure H' 3 [0,3] [] ?_
    exact anyFShd [0,1,4,5,6,7,21,24] [(0,0),(2,2),(3,3),(4,4)] 5 d8'
   ·rintro e' rfl; refine cn ?_
    refine jn (fun e'=>∃ c_7 c_8 c_9 lines,spec_l06Right_j2 v w_2 w_3 x20 c_7 c_8 c_9 lines=some y1'∧e'=⟨53,2,6,[(0,.pl (.one (.ref 0 []))),(1,.pl (.one (.v (.sc (.int .i64 n))))),(4,.pl (.one (.ref 2 []))),(5,.pl (.one (.ref 3 []))),(6,.pl (.one (.v (.sc (.int .i64 v))))),(7,.pl (.one (.ref 4 []))),(8,.pl (.one (.ref 5 [])))],[(0,.box true [.list false 1 (List.map (rK .u8) c_7),.sc (.int .i64 c_8),.sc (.int .i64 c_9)]),(2,.box true [.list true 1 (List.map (rL true 1 (rK .i64)) []),.list true 4 (List.map (zA true) [])]),(3,.box true [.list true 1 (List.map (rL true 1 (rK .i64)) w_2),.list true 4 (List.map (zA true) w_3)]),(4,.list true 1 (List.map (rK .i64) x20.1)),(5,.list true 1 (List.map rS lines))]⟩) ?_ ?_
    ·refine go ?_
     refine gc 3 (fun b e'=>e'=⟨53,2,6,[(0,.pl (.one (.ref 0 []))),(1,.pl (.one (.v (.sc (.int .i64 n))))),(4,.pl (.one (.ref 2 []))),(5,.pl (.one (.ref 3 []))),(6,.pl (.one (.v (.sc (.int .i64 v))))),(7,.pl (.one (.ref 4 []))),(8,.pl (.one (.ref 5 []))),(33,.pl (.one (.v (.sc (.bool b.1)))))],[(0,.box true [.list false 1 (List.map (rK .u8) b.2.1),.sc (.int .i64 b.2.2.1),.sc (.int .i64 b.2.2.2)]),(2,.box true [.list true 1 (List.map (rL true 1 (rK .i64)) []),.list true 4 (List.map (zA true) [])]),(3,.box true [.list true 1 (List.map (rL true 1 (rK .i64)) w_2),.list true 4 (List.map (zA true) w_3)]),(4,.list true 1 (List.map (rK .i64) x20.1)),(5,.list true 1 (List.map rS x27.1))]⟩) ?_ ?_
     ·intro p
      refine opsV_spR ?_ ?_
      ·refine go ?_
       exact ge [0,1,4,5,6,7,8,33] [(0,0),(2,2),(3,3),(4,4),(5,5)] 6 rfl
      ·refine go ?_; intro x32
       refine go ?_
       exact ge [0,1,4,5,6,7,8,33] [(0,0),(2,2),(3,3),(4,4),(5,5)] 6 rfl
     ·rintro b _ rfl
      refine go ?_
      refine sp ?_ ?_
      ·refine go ?_; intro x35
       refine go ?_
       exact je [0,1,4,5,6,7,8] [(0,0),(2,2),(3,3),(4,4),(6,5)] 6 fun h=>⟨_,_,_,_,h,rfl⟩
      ·refine go ?_
       exact je [0,1,4,5,6,7,8] [(0,0),(2,2),(3,3),(4,4),(5,5)] 6 fun h=>⟨_,_,_,_,h,rfl⟩
    ·rintro e' ⟨c_7,c_8,c_9,lines,h,rfl⟩; refine tl h ?_; unfold spec_l06Right_j2
     refine jn (fun e'=>∃ lines_1,spec_l06Right_j3 v w_2 w_3 x20 c_7 c_8 c_9 lines_1=some y1'∧e'=⟨53,2,6,[(0,.pl (.one (.ref 0 []))),(1,.pl (.one (.v (.sc (.int .i64 n))))),(4,.pl (.one (.ref 2 []))),(5,.pl (.one (.ref 3 []))),(6,.pl (.one (.v (.sc (.int .i64 v))))),(7,.pl (.one (.ref 4 []))),(8,.pl (.one (.ref 5 [])))],[(0,.box true [.list false 1 (List.map (rK .u8) c_7),.sc (.int .i64 c_8),.sc (.int .i64 c_9)]),(2,.box true [.list true 1 (List.map (rL true 1 (rK .i64)) []),.list true 4 (List.map (zA true) [])]),(3,.box true [.list true 1 (List.map (rL true 1 (rK .i64)) w_2),.list true 4 (List.map (zA true) w_3)]),(4,.list true 1 (List.map (rK .i64) x20.1)),(5,.list true 1 (List.map rS lines_1))]⟩) ?_ ?_
     ·refine go ?_
      refine sp ?_ ?_
      ·refine go ?_; intro x40 v'
       refine go ?_
       refine lf ?_ (fun a g=>opsV_cutO a g)
       refine go ?_
       exact je [0,1,4,5,6,7,8] [(0,0),(2,2),(3,3),(4,4),(6,5)] 6 fun h=>⟨_,h,rfl⟩
      ·refine go ?_
       exact je [0,1,4,5,6,7,8] [(0,0),(2,2),(3,3),(4,4),(5,5)] 6 fun h=>⟨_,h,rfl⟩
     ·rintro e' ⟨lines_1,h,rfl⟩; refine tl h ?_; unfold spec_l06Right_j3
      refine go ?_; intro x45
      refine go ?_
      refine l1 ?_
      refine go ?_
      refine sp ?_ ?_
      ·refine go ?_
       exact bk [0,1,4,5,6] [(0,0),(2,2),(3,3)] 4 ⟨_,_,_,_,_,_,rfl,rfl⟩
      ·refine go ?_
       exact bk [0,1,4,5,6] [(0,0),(2,2),(3,3)] 4 ⟨_,_,_,_,_,_,rfl,rfl⟩
  ·refine go ?_
   exact je [4,5] [(0,0),(2,2),(3,3)] 4 fun h=>⟨_,_,_,_,_,h,rfl⟩
 ·rintro e' ⟨c_1,c_2,c_3,w,w_1,h,rfl⟩; refine tl h ?_; unfold spec_l06Right_j1
  exact gz
instance W_spec_DrawPair:∀ code,Wlk X (spec_DrawPair code) 14 [] [.one (.list false 1 (List.map (rK .u8) code))] (fun r'=>[.agg [.list true 1 (List.map (rL true 1 (rK .i64)) r'.1.Parents),.list true 4 (List.map (zA true) r'.1.Bodies)],.one (.sc (.int .i64 r'.2.1)),.one (.sc (.int .i64 r'.2.2))]) (fun r'=>[]):=fun code=>by
 refine ws f14 29 [.cell 2 27,.tmp 3,.tmp 4] (h2 t3 (h2 t24 (h2 t27 (h2 R_Li64 (h2 zV (h2 R_i64 R_u8)))))) ?_
 intro r'; unfold spec_DrawPair
 refine go ?_
 refine l1 ?_
 refine go ?_; intro x9
 refine go ?_; intro x13
 refine go ?_; intro x14
 refine go ?_; intro x16
 refine go ?_
 refine l1 ?_
 refine go ?_; intro x21
 refine go ?_
 refine rc [1,2,3,0,4,5,6,7,8,9] ?_
 refine go ?_; intro x28
 exact gz
instance W_impl_inRange:∀ n least most,Wlk X (impl_inRange n least most) 142 [] [.one (.sc (.int .i64 n)),.one (.sc (.int .i64 least)),.one (.sc (.int .i64 most))] (fun r'=>[.one (.sc (.bool r'))]) (fun r'=>[]):=fun n least most=>by
 refine ws f142 15 [.tmp 6] t3 ?_
 intro r'; unfold impl_inRange
 refine go ?_
 refine gc 4 (fun b e'=>e'=⟨15,3,3,[(14,.pl (.one (.v (.sc (.bool b)))))],[]⟩) ?_ ?_
 ·intro p
  refine opsV_spL ?_ ?_
  ·refine go ?_
   exact ge [14] [] 3 rfl
  ·refine go ?_
   exact ge [14] [] 3 rfl
 ·rintro b _ rfl
  exact gz
instance W_impl_ascends:∀ list_ below,Wlk X (impl_ascends list_ below) 182 [] [.one (.list false 1 (List.map (rK .i64) list_)),.one (.sc (.int .i64 below))] (fun r'=>[.one (.sc (.bool r'))]) (fun r'=>[]):=fun list_ below=>by
 refine ws f182 33 [.tmp 4] (h2 t3 (h2 t39 R_i64)) ?_
 intro r'; unfold impl_ascends
 refine go ?_
 refine jn (fun e'=>impl_ascends_j1=some r'∧e'=⟨33,2,2,[],[]⟩) ?_ ?_
 ·refine go ?_
  refine lp (fun x9 e'=>e'=⟨33,2,2,[(0,.pl (.one (.v (.list false 1 (List.map (rK .i64) list_))))),(1,.pl (.one (.v (.sc (.int .i64 below))))),(7,.pl (.one (.v (.list false 1 (List.map (rK .i64) list_))))),(8,.pl (.one (.v (.sc (.int .i64 (list_.length:Int)))))),(9,.pl (.one (.v (.sc (.int .i64 x9)))))],[]⟩) [0,1,7,8,9] [] 2 rfl ?_
  rintro x9 _ rfl y1'
  change Tl _ (jA list_ below x9) _ _; unfold jA
  refine go ?_
  refine sq ?_
  refine go ?_
  refine sp ?_ ?_
  ·refine go ?_
   refine sq ?_
   refine go ?_; intro x v'
   refine go ?_; intro x17
   refine go ?_
   refine gc 12 (fun b e'=>e'=⟨33,2,2,[(0,.pl (.one (.v (.list false 1 (List.map (rK .i64) list_))))),(1,.pl (.one (.v (.sc (.int .i64 below))))),(7,.pl (.one (.v (.list false 1 (List.map (rK .i64) list_))))),(8,.pl (.one (.v (.sc (.int .i64 (list_.length:Int)))))),(9,.pl (.one (.v (.sc (.int .i64 x9))))),(31,.pl (.one (.v (.sc (.bool b)))))],[]⟩) ?_ ?_
   ·intro p
    refine opsV_spR ?_ ?_
    ·refine go ?_
     exact ge [0,1,7,8,9,31] [] 2 rfl
    ·refine go ?_
     refine gc 8 (fun b_1 e'=>e'=⟨33,2,2,[(0,.pl (.one (.v (.list false 1 (List.map (rK .i64) list_))))),(1,.pl (.one (.v (.sc (.int .i64 below))))),(7,.pl (.one (.v (.list false 1 (List.map (rK .i64) list_))))),(8,.pl (.one (.v (.sc (.int .i64 (list_.length:Int)))))),(9,.pl (.one (.v (.sc (.int .i64 x9))))),(19,.pl (.one (.v (.sc (.bool false))))),(20,.pl (.one (.v (.sc (.int .i64 x9))))),(21,.pl (.one (.v (.sc (.bool (decide (x9 > 0))))))),(30,.pl (.one (.v (.sc (.bool b_1)))))],[]⟩) ?_ ?_
     ·intro p
      refine opsV_spL ?_ ?_
      ·refine go ?_; intro x_1 v'
       refine go ?_
       exact ge [0,1,7,8,9,19,20,21,30] [] 2 rfl
      ·refine go ?_
       exact ge [0,1,7,8,9,19,20,21,30] [] 2 rfl
     ·rintro b_1 _ rfl
      refine go ?_
      exact ge [0,1,7,8,9,31] [] 2 rfl
   ·rintro b _ rfl
    refine go ?_
    refine sp ?_ ?_
    ·exact gz
    ·refine go ?_
     exact bk [0,1,7,8,9] [] 2 rfl
  ·refine go ?_
   exact je [] [] 2 fun h=>⟨h,rfl⟩
 ·rintro e' ⟨h,rfl⟩; refine tl h ?_; unfold impl_ascends_j1
  exact gz
instance W_impl_GraphOk:∀ parents,Wlk X (impl_GraphOk parents) 70 [] [.one (.list false 1 (List.map (rL false 1 (rK .i64)) parents))] (fun r'=>[.one (.sc (.bool r'))]) (fun r'=>[]):=fun parents=>by
 refine ws f70 25 [.tmp 2] (h2 t3 (h2 t24 (h2 t39 (h2 R_Li64 R_i64)))) ?_
 intro r'; unfold impl_GraphOk
 refine go ?_
 refine jn (fun e'=>impl_GraphOk_j1 parents=some r'∧e'=⟨25,1,1,[(0,.pl (.one (.v (.list false 1 (List.map (rL false 1 (rK .i64)) parents)))))],[]⟩) ?_ ?_
 ·refine go ?_
  refine lp (fun x7 e'=>e'=⟨25,1,1,[(0,.pl (.one (.v (.list false 1 (List.map (rL false 1 (rK .i64)) parents))))),(5,.pl (.one (.v (.list false 1 (List.map (rL false 1 (rK .i64)) parents))))),(6,.pl (.one (.v (.sc (.int .i64 (parents.length:Int)))))),(7,.pl (.one (.v (.sc (.int .i64 x7)))))],[]⟩) [0,5,6,7] [] 1 rfl ?_
  rintro x7 _ rfl y1'
  change Tl _ (jB parents x7) _ _; unfold jB
  refine go ?_
  refine sq ?_
  refine go ?_
  refine sp ?_ ?_
  ·refine go ?_
   refine sq ?_
   refine go ?_; intro x v'
   refine go ?_
   refine gc 5 (fun b e'=>e'=⟨25,1,1,[(0,.pl (.one (.v (.list false 1 (List.map (rL false 1 (rK .i64)) parents))))),(5,.pl (.one (.v (.list false 1 (List.map (rL false 1 (rK .i64)) parents))))),(6,.pl (.one (.v (.sc (.int .i64 (parents.length:Int)))))),(7,.pl (.one (.v (.sc (.int .i64 x7))))),(20,.pl (.one (.v (.sc (.bool b)))))],[]⟩) ?_ ?_
   ·intro p
    refine opsV_spR ?_ ?_
    ·refine go ?_
     exact ge [0,5,6,7,20] [] 1 rfl
    ·refine go ?_; intro x18
     refine go ?_
     exact ge [0,5,6,7,20] [] 1 rfl
   ·rintro b _ rfl
    refine go ?_
    refine sp ?_ ?_
    ·exact gz
    ·refine go ?_
     exact bk [0,5,6,7] [] 1 rfl
  ·refine go ?_
   exact je [0] [] 1 fun h=>⟨h,rfl⟩
 ·rintro e' ⟨h,rfl⟩; refine tl h ?_; unfold impl_GraphOk_j1
  exact gz
instance W_impl_unionOf:∀ closed list_,Wlk X (impl_unionOf closed list_) 189 [] [.one (.list false 1 (List.map (rK .u64) closed)),.one (.list false 1 (List.map (rK .i64) list_))] (fun r'=>[.one (.sc (.int .u64 r'))]) (fun r'=>[]):=fun closed list_=>by
 refine ws f189 22 [.tmp 4] (h2 t3 (h2 t39 (h2 t124 (h2 t125 (h2 R_i64 R_u64))))) ?_
 intro r'; unfold impl_unionOf
 refine go ?_
 refine jn (fun e'=>∃ s,impl_unionOf_j1 s=some r'∧e'=⟨22,2,2,[(5,.pl (.one (.v (.sc (.int .u64 s)))))],[]⟩) ?_ ?_
 ·refine go ?_
  refine lp (fun s' e'=>∃ s_1 x10,s'=(s_1,x10)∧e'=⟨22,2,2,[(0,.pl (.one (.v (.list false 1 (List.map (rK .u64) closed))))),(5,.pl (.one (.v (.sc (.int .u64 s_1))))),(8,.pl (.one (.v (.list false 1 (List.map (rK .i64) list_))))),(9,.pl (.one (.v (.sc (.int .i64 (list_.length:Int)))))),(10,.pl (.one (.v (.sc (.int .i64 x10)))))],[]⟩) [0,5,8,9,10] [] 2 ⟨_,_,rfl,rfl⟩ ?_
  rintro s' _ ⟨s_1,x10,rfl,rfl⟩ y1'
  change Tl _ (impl_unionOf_l1 closed list_ s_1 x10) _ _; unfold impl_unionOf_l1
  refine go ?_
  refine sq ?_
  refine go ?_
  refine sp ?_ ?_
  ·refine go ?_
   refine sq ?_
   refine go ?_; intro x v'
   refine go ?_; intro x_1 v'
   refine go ?_
   exact bk [0,5,8,9,10] [] 2 ⟨_,_,rfl,rfl⟩
  ·refine go ?_
   exact je [5] [] 2 fun h=>⟨_,h,rfl⟩
 ·rintro e' ⟨s,h,rfl⟩; refine tl h ?_; unfold impl_unionOf_j1
  exact gz
instance W_impl_closures:∀ parents,Wlk X (impl_closures parents) 78 [] [.one (.list false 1 (List.map (rL false 1 (rK .i64)) parents))] (fun r'=>[.one (.list true 1 (List.map (rK .u64) r'))]) (fun r'=>[]):=fun parents=>by
 refine ws f78 28 [.tmp 2] (h2 t3 (h2 t24 (h2 t39 (h2 t124 (h2 t125 (h2 t237 (h2 R_Li64 (h2 R_i64 R_u64)))))))) ?_
 intro r'; unfold impl_closures
 refine go ?_
 refine l1 ?_
 refine go ?_; intro x8 v'
 refine go ?_
 refine jn (fun e'=>∃ out_,impl_closures_j1 out_=some r'∧e'=⟨28,1,2,[(3,.pl (.one (.ref 1 [])))],[(1,.list true 1 (List.map (rK .u64) out_))]⟩) ?_ ?_
 ·refine go ?_
  refine lp (fun s' e'=>∃ x11 out__1,s'=(x11,out__1)∧e'=⟨28,1,2,[(3,.pl (.one (.ref 1 []))),(9,.pl (.one (.v (.list false 1 (List.map (rL false 1 (rK .i64)) parents))))),(10,.pl (.one (.v (.sc (.int .i64 (parents.length:Int)))))),(11,.pl (.one (.v (.sc (.int .i64 x11)))))],[(1,.list true 1 (List.map (rK .u64) out__1))]⟩) [3,9,10,11] [(2,1)] 2 ⟨_,_,rfl,rfl⟩ ?_
  rintro s' _ ⟨x11,out__1,rfl,rfl⟩ y1'
  change Tl _ (impl_closures_l1 parents x11 out__1) _ _; unfold impl_closures_l1
  refine go ?_
  refine sq ?_
  refine go ?_
  refine sp ?_ ?_
  ·refine go ?_
   refine sq ?_
   refine go ?_; intro x v'
   refine go ?_; intro x20
   refine go ?_; intro u v'
   refine go ?_; intro x_1 v'
   refine go ?_
   exact bk [3,9,10,11] [(1,1)] 2 ⟨_,_,rfl,rfl⟩
  ·refine go ?_
   exact je [3] [(1,1)] 2 fun h=>⟨_,h,rfl⟩
 ·rintro e' ⟨out_,h,rfl⟩; refine tl h ?_; unfold impl_closures_j1
  exact gz
theorem W_strings_Contains (s:ByteArray) (x:ByteArray) (r':Bool) (h0':strings_Contains s x=some r'):Fn X 267 [.one (.sc (.string s)),.one (.sc (.string x))] [.one (.sc (.bool r'))] []:=by
 unfold strings_Contains at h0'
 split at h0'
 case isFalse=>cases h0'
 rename_i hs
 obtain rfl:=zso h0'
 exact Fn_pureB ⟨_,Go.Proofs.Tryz.func267,rfl,rfl⟩ (fun w hg=>by
  obtain ⟨y,hy,hy2⟩:=hg _ _ (by rfl:X.G (Go.Proofs.Tryz.lays144_ren.g 1)=some isNum)
  obtain ⟨m,hm⟩:=isNum_cell hy hy2
  exact Go.Proofs.Any.strings_Contains {Go.Proofs.Tryz.lays144 with} s x m w hs hm)
instance:∀ s x,Wlk X (strings_Contains s x) 267 [] [.one (.sc (.string s)),.one (.sc (.string x))] (fun r'=>[.one (.sc (.bool r'))]) (fun r'=>[]):=fun s x=>⟨fun r' h=>W_strings_Contains s x r' h⟩
instance W_impl_LineOk:∀ line,Wlk X (impl_LineOk line) 221 [] [.one (.sc (.string line))] (fun r'=>[.one (.sc (.bool r'))]) (fun r'=>[]):=fun line=>by
 refine ws f221 11 [.tmp 2] (h2 t3 t9) ?_
 intro r'; unfold impl_LineOk
 refine go ?_
 refine gc 4 (fun b e'=>e'=⟨11,1,1,[(10,.pl (.one (.v (.sc (.bool b)))))],[]⟩) ?_ ?_
 ·intro p
  refine opsV_spL ?_ ?_
  ·refine go ?_; intro x8
   refine go ?_
   exact ge [10] [] 1 rfl
  ·refine go ?_
   exact ge [10] [] 1 rfl
 ·rintro b _ rfl
  exact gz
instance W_impl_isPlace:∀ n size,Wlk X (impl_isPlace n size) 73 [] [.one (.sc (.int .i64 n)),.one (.sc (.int .i64 size))] (fun r'=>[.one (.sc (.bool r'))]) (fun r'=>[]):=fun n size=>by
 refine ws f73 9 [.tmp 4] t3 ?_
 intro r'; unfold impl_isPlace
 refine go ?_; intro x8
 exact gz
instance W_impl_set_has:∀ s v,Wlk X (impl_set_has s v) 190 [] [.one (.sc (.int .u64 s)),.one (.sc (.int .i64 v))] (fun r'=>[.one (.sc (.bool r'))]) (fun r'=>[]):=fun s v=>by
 refine ws f190 15 [.tmp 4] (h2 t3 (h2 t124 t237)) ?_
 intro r'; unfold impl_set_has
 refine go ?_; intro x6
 refine go ?_
 refine gc 7 (fun b e'=>e'=⟨15,2,2,[(14,.pl (.one (.v (.sc (.bool b)))))],[]⟩) ?_ ?_
 ·intro p
  refine opsV_spL ?_ ?_
  ·refine go ?_; intro u v'
   refine go ?_
   exact ge [14] [] 2 rfl
  ·refine go ?_
   exact ge [14] [] 2 rfl
 ·rintro b _ rfl
  exact gz
instance W_impl_setOf:∀ list_,Wlk X (impl_setOf list_) 83 [] [.one (.list false 1 (List.map (rK .i64) list_))] (fun r'=>[.one (.sc (.int .u64 r'))]) (fun r'=>[]):=fun list_=>by
 refine ws f83 21 [.tmp 2] (h2 t3 (h2 t39 (h2 t124 (h2 t237 R_i64)))) ?_
 intro r'; unfold impl_setOf
 refine go ?_
 refine jn (fun e'=>∃ s,impl_setOf_j1 s=some r'∧e'=⟨21,1,1,[(3,.pl (.one (.v (.sc (.int .u64 s)))))],[]⟩) ?_ ?_
 ·refine go ?_
  refine lp (fun s' e'=>∃ s_1 x8,s'=(s_1,x8)∧e'=⟨21,1,1,[(3,.pl (.one (.v (.sc (.int .u64 s_1))))),(6,.pl (.one (.v (.list false 1 (List.map (rK .i64) list_))))),(7,.pl (.one (.v (.sc (.int .i64 (list_.length:Int)))))),(8,.pl (.one (.v (.sc (.int .i64 x8)))))],[]⟩) [3,6,7,8] [] 1 ⟨_,_,rfl,rfl⟩ ?_
  rintro s' _ ⟨s_1,x8,rfl,rfl⟩ y1'
  change Tl _ (impl_setOf_l1 list_ s_1 x8) _ _; unfold impl_setOf_l1
  refine go ?_
  refine sq ?_
  refine go ?_
  refine sp ?_ ?_
  ·refine go ?_
   refine sq ?_
   refine go ?_; intro x v'
   refine go ?_; intro x13
   refine go ?_
   refine sp ?_ ?_
   ·refine go ?_; intro u v'
    refine go ?_
    exact bk [3,6,7,8] [] 1 ⟨_,_,rfl,rfl⟩
   ·refine go ?_
    exact bk [3,6,7,8] [] 1 ⟨_,_,rfl,rfl⟩
  ·refine go ?_
   exact je [3] [] 1 fun h=>⟨_,h,rfl⟩
 ·rintro e' ⟨s,h,rfl⟩; refine tl h ?_; unfold impl_setOf_j1
  exact gz
instance W_impl_Body_isLive:∀ b s,Wlk X (impl_Body_isLive b s) 193 [] [.agg [.sc (.string b.Line),.sc (.int .i64 b.Ins),.sc (.int .i64 b.Ord),.list false 1 (List.map (rK .i64) b.Dels)],.one (.sc (.int .u64 s))] (fun r'=>[.one (.sc (.bool r'))]) (fun r'=>[]):=fun b s=>by
 refine ws f193 17 [.tmp 4] (h2 t3 (h2 t39 (h2 t46 (h2 t124 R_i64)))) ?_
 intro r'; unfold impl_Body_isLive
 refine go ?_; intro x8
 refine go ?_
 refine gc 7 (fun b_1 e'=>e'=⟨17,5,5,[(16,.pl (.one (.v (.sc (.bool b_1)))))],[]⟩) ?_ ?_
 ·intro p
  refine opsV_spL ?_ ?_
  ·refine go ?_; intro x12
   refine go ?_
   exact ge [16] [] 5 rfl
  ·refine go ?_
   exact ge [16] [] 5 rfl
 ·rintro b_1 _ rfl
  exact gz
instance W_impl_Weave_liveIn:∀ w s,Wlk X (qR w s) 82 [] [.one (.box false [.list false 1 (List.map (rL false 1 (rK .i64)) w.Parents),.list false 4 (List.map (zA false) w.Bodies)]),.one (.sc (.int .u64 s))] (fun r'=>[.one (.list true 1 (List.map (rK .i64) r'))]) (fun r'=>[]):=fun w s=>by
 refine ws f82 27 [.tmp 4] (h2 t3 (h2 t25 (h2 t27 (h2 t39 (h2 t46 (h2 R_Li64 (h2 zV R_i64))))))) ?_
 intro r'; unfold qR
 refine go ?_
 refine l1 ?_
 refine go ?_
 refine l1 ?_
 refine go ?_
 refine jn (fun e'=>∃ out_,impl_Weave_liveIn_j1 out_=some r'∧e'=⟨27,2,3,[(5,.pl (.one (.ref 2 [])))],[(2,.list true 1 (List.map (rK .i64) out_))]⟩) ?_ ?_
 ·refine go ?_
  refine lp (fun s' e'=>∃ x13 out__1,s'=(x13,out__1)∧e'=⟨27,2,3,[(1,.pl (.one (.v (.sc (.int .u64 s))))),(5,.pl (.one (.ref 2 []))),(11,.pl (.one (.v (.list false 4 (List.map (zA false) w.Bodies))))),(12,.pl (.one (.v (.sc (.int .i64 (w.Bodies.length:Int)))))),(13,.pl (.one (.v (.sc (.int .i64 x13)))))],[(2,.list true 1 (List.map (rK .i64) out__1))]⟩) [1,5,11,12,13] [(3,2)] 3 ⟨_,_,rfl,rfl⟩ ?_
  rintro s' _ ⟨x13,out__1,rfl,rfl⟩ y1'
  change Tl _ (qU w s x13 out__1) _ _; unfold qU
  refine go ?_
  refine sq ?_
  refine go ?_
  refine sp ?_ ?_
  ·refine go ?_
   refine sq ?_
   refine go ?_; intro x v'
   refine go ?_
   refine l1 ?_
   refine go ?_; intro x20
   refine go ?_
   refine sp ?_ ?_
   ·refine go ?_; intro l v'
    refine go ?_
    exact bk [1,5,11,12,13] [(2,2)] 3 ⟨_,_,rfl,rfl⟩
   ·refine go ?_
    exact bk [1,5,11,12,13] [(2,2)] 3 ⟨_,_,rfl,rfl⟩
  ·refine go ?_
   exact je [5] [(2,2)] 3 fun h=>⟨_,h,rfl⟩
 ·rintro e' ⟨out_,h,rfl⟩; refine tl h ?_; unfold impl_Weave_liveIn_j1
  exact gz
instance W_impl_bodiesOk:∀ w closed,Wlk X (impl_bodiesOk w closed) 134 [] [.agg [.list false 1 (List.map (rL false 1 (rK .i64)) w.Parents),.list false 4 (List.map (zA false) w.Bodies)],.one (.list false 1 (List.map (rK .u64) closed))] (fun r'=>[.one (.sc (.bool r'))]) (fun r'=>[]):=fun w closed=>by
 refine ws f134 97 [.tmp 4] (h2 t3 (h2 t9 (h2 t24 (h2 t25 (h2 t27 (h2 t39 (h2 t46 (h2 t124 (h2 t125 (h2 R_Li64 (h2 zV (h2 R_i64 R_u64)))))))))))) ?_
 intro r'; unfold impl_bodiesOk
 refine go ?_; intro x14 v'
 refine go ?_
 refine jn (fun e'=>∃ born,impl_bodiesOk_j1 w closed born=some r'∧e'=⟨97,3,5,[(1,.pl (.one (.v (.list false 1 (List.map (rK .u64) closed))))),(2,.pl (.one (.ref 3 []))),(5,.pl (.one (.ref 4 [])))],[(3,.box true [.list false 1 (List.map (rL false 1 (rK .i64)) w.Parents),.list false 4 (List.map (zA false) w.Bodies)]),(4,.list true 1 (List.map (rK .i64) born))]⟩) ?_ ?_
 ·refine go ?_
  refine lp (fun s' e'=>∃ x18 born_1,s'=(x18,born_1)∧e'=⟨97,3,5,[(1,.pl (.one (.v (.list false 1 (List.map (rK .u64) closed))))),(2,.pl (.one (.ref 3 []))),(5,.pl (.one (.ref 4 []))),(16,.pl (.one (.v (.list false 4 (List.map (zA false) w.Bodies))))),(17,.pl (.one (.v (.sc (.int .i64 (w.Bodies.length:Int)))))),(18,.pl (.one (.v (.sc (.int .i64 x18)))))],[(3,.box true [.list false 1 (List.map (rL false 1 (rK .i64)) w.Parents),.list false 4 (List.map (zA false) w.Bodies)]),(4,.list true 1 (List.map (rK .i64) born_1))]⟩) [1,2,5,16,17,18] [(3,3),(4,4)] 5 ⟨_,_,rfl,rfl⟩ ?_
  rintro s' _ ⟨x18,born_1,rfl,rfl⟩ y1'
  change Tl _ (qP w closed x18 born_1) _ _; unfold qP
  refine go ?_
  refine sq ?_
  refine go ?_
  refine sp ?_ ?_
  ·refine go ?_
   refine jn (fun e'=>∃ born_2,impl_bodiesOk_j3 x18 born_2=some y1'∧e'=⟨97,3,5,[(1,.pl (.one (.v (.list false 1 (List.map (rK .u64) closed))))),(2,.pl (.one (.ref 3 []))),(5,.pl (.one (.ref 4 []))),(16,.pl (.one (.v (.list false 4 (List.map (zA false) w.Bodies))))),(17,.pl (.one (.v (.sc (.int .i64 (w.Bodies.length:Int)))))),(18,.pl (.one (.v (.sc (.int .i64 x18)))))],[(3,.box true [.list false 1 (List.map (rL false 1 (rK .i64)) w.Parents),.list false 4 (List.map (zA false) w.Bodies)]),(4,.list true 1 (List.map (rK .i64) born_2))]⟩) ?_ ?_
   ·refine go ?_; intro x_2 v'
    refine go ?_
    refine l1 ?_
    refine go ?_
    refine sq ?_
    refine go ?_
    refine rq ?_
    refine go ?_; intro x24
    refine go ?_
    refine qc 7 (fun b_1 e'=>e'=⟨97,3,6,[(1,.pl (.one (.v (.list false 1 (List.map (rK .u64) closed))))),(2,.pl (.one (.ref 3 []))),(5,.pl (.one (.ref 4 []))),(7,.pl (.one (.ref 5 []))),(16,.pl (.one (.v (.list false 4 (List.map (zA false) w.Bodies))))),(17,.pl (.one (.v (.sc (.int .i64 (w.Bodies.length:Int)))))),(18,.pl (.one (.v (.sc (.int .i64 x18))))),(33,.pl (.one (.v (.sc (.bool b_1)))))],[(3,.box true [.list false 1 (List.map (rL false 1 (rK .i64)) w.Parents),.list false 4 (List.map (zA false) w.Bodies)]),(4,.list true 1 (List.map (rK .i64) born_1)),(5,.box true [.sc (.string x_2.Line),.sc (.int .i64 x_2.Ins),.sc (.int .i64 x_2.Ord),.list false 1 (List.map (rK .i64) x_2.Dels)])]⟩) ?_ ?_
    ·intro p
     refine quV_spR ?_ ?_
     ·refine go ?_
      exact ge [1,2,5,7,16,17,18,33] [(3,3),(4,4),(5,5)] 6 rfl
     ·refine go ?_; intro x31
      refine go ?_
      exact ge [1,2,5,7,16,17,18,33] [(3,3),(4,4),(5,5)] 6 rfl
    ·rintro b_1 _ rfl
     refine go ?_
     refine qc 9 (fun b_2 e'=>e'=⟨97,3,6,[(1,.pl (.one (.v (.list false 1 (List.map (rK .u64) closed))))),(2,.pl (.one (.ref 3 []))),(5,.pl (.one (.ref 4 []))),(7,.pl (.one (.ref 5 []))),(16,.pl (.one (.v (.list false 4 (List.map (zA false) w.Bodies))))),(17,.pl (.one (.v (.sc (.int .i64 (w.Bodies.length:Int)))))),(18,.pl (.one (.v (.sc (.int .i64 x18))))),(43,.pl (.one (.v (.sc (.bool b_2)))))],[(3,.box true [.list false 1 (List.map (rL false 1 (rK .i64)) w.Parents),.list false 4 (List.map (zA false) w.Bodies)]),(4,.list true 1 (List.map (rK .i64) born_1)),(5,.box true [.sc (.string x_2.Line),.sc (.int .i64 x_2.Ins),.sc (.int .i64 x_2.Ord),.list false 1 (List.map (rK .i64) x_2.Dels)])]⟩) ?_ ?_
     ·intro p
      refine quV_spR ?_ ?_
      ·refine go ?_
       exact ge [1,2,5,7,16,17,18,43] [(3,3),(4,4),(5,5)] 6 rfl
      ·refine go ?_; intro x_3 v'
       refine go ?_
       exact ge [1,2,5,7,16,17,18,43] [(3,3),(4,4),(5,5)] 6 rfl
     ·rintro b_2 _ rfl
      refine go ?_
      refine qc 7 (fun b_3 e'=>e'=⟨97,3,6,[(1,.pl (.one (.v (.list false 1 (List.map (rK .u64) closed))))),(2,.pl (.one (.ref 3 []))),(5,.pl (.one (.ref 4 []))),(7,.pl (.one (.ref 5 []))),(16,.pl (.one (.v (.list false 4 (List.map (zA false) w.Bodies))))),(17,.pl (.one (.v (.sc (.int .i64 (w.Bodies.length:Int)))))),(18,.pl (.one (.v (.sc (.int .i64 x18))))),(51,.pl (.one (.v (.sc (.bool b_3)))))],[(3,.box true [.list false 1 (List.map (rL false 1 (rK .i64)) w.Parents),.list false 4 (List.map (zA false) w.Bodies)]),(4,.list true 1 (List.map (rK .i64) born_1)),(5,.box true [.sc (.string x_2.Line),.sc (.int .i64 x_2.Ins),.sc (.int .i64 x_2.Ord),.list false 1 (List.map (rK .i64) x_2.Dels)])]⟩) ?_ ?_
      ·intro p
       refine quV_spR ?_ ?_
       ·refine go ?_
        exact ge [1,2,5,7,16,17,18,51] [(3,3),(4,4),(5,5)] 6 rfl
       ·refine go ?_; intro x49
        refine go ?_
        exact ge [1,2,5,7,16,17,18,51] [(3,3),(4,4),(5,5)] 6 rfl
      ·rintro b_3 _ rfl
       refine go ?_
       refine sp ?_ ?_
       ·exact gz
       ·refine go ?_; intro x_4 v'
        refine go ?_
        refine lp (fun x62 e'=>e'=⟨97,3,6,[(1,.pl (.one (.v (.list false 1 (List.map (rK .u64) closed))))),(2,.pl (.one (.ref 3 []))),(5,.pl (.one (.ref 4 []))),(7,.pl (.one (.ref 5 []))),(16,.pl (.one (.v (.list false 4 (List.map (zA false) w.Bodies))))),(17,.pl (.one (.v (.sc (.int .i64 (w.Bodies.length:Int)))))),(18,.pl (.one (.v (.sc (.int .i64 x18))))),(60,.pl (.one (.v (.list false 1 (List.map (rK .i64) x_2.Dels))))),(61,.pl (.one (.v (.sc (.int .i64 (x_2.Dels.length:Int)))))),(62,.pl (.one (.v (.sc (.int .i64 x62)))))],[(3,.box true [.list false 1 (List.map (rL false 1 (rK .i64)) w.Parents),.list false 4 (List.map (zA false) w.Bodies)]),(4,.list true 1 (List.map (rK .i64) (born_1.set x_2.Ins.toNat (wk .i64 (x_4+1))))),(5,.box true [.sc (.string x_2.Line),.sc (.int .i64 x_2.Ins),.sc (.int .i64 x_2.Ord),.list false 1 (List.map (rK .i64) x_2.Dels)])]⟩) [1,2,5,7,16,17,18,60,61,62] [(3,3),(4,4),(5,5)] 6 rfl ?_
        rintro x62 _ rfl y2'
        change Tl _ (impl_bodiesOk_l3 w closed x_2 x62) _ _; unfold impl_bodiesOk_l3
        refine go ?_
        refine sq ?_
        refine go ?_
        refine sp ?_ ?_
        ·refine go ?_
         refine sq ?_
         refine go ?_; intro x_5 v'
         refine go ?_; intro x_6 v'
         refine go ?_
         refine rq ?_
         refine go ?_; intro x73
         refine go ?_; intro x74
         refine go ?_
         refine sp ?_ ?_
         ·exact gz
         ·refine go ?_
          exact bk [1,2,5,7,16,17,18,60,61,62] [(3,3),(4,4),(5,5)] 6 rfl
        ·refine go ?_
         exact je [1,2,5,16,17,18] [(3,3),(4,4)] 5 fun h=>⟨_,h,rfl⟩
   ·rintro e' ⟨born_2,h,rfl⟩; refine tl h ?_; unfold impl_bodiesOk_j3
    refine go ?_
    exact bk [1,2,5,16,17,18] [(3,3),(4,4)] 5 ⟨_,_,rfl,rfl⟩
  ·refine go ?_
   exact je [1,2,5] [(3,3),(4,4)] 5 fun h=>⟨_,h,rfl⟩
 ·rintro e' ⟨born,h,rfl⟩; refine tl h ?_; unfold impl_bodiesOk_j1
  refine jn (fun e'=>impl_bodiesOk_j2=some r'∧e'=⟨97,3,3,[],[]⟩) ?_ ?_
  ·refine go ?_
   refine lp (fun x80 e'=>e'=⟨97,3,5,[(2,.pl (.one (.ref 3 []))),(5,.pl (.one (.ref 4 []))),(78,.pl (.one (.v (.list false 1 (List.map (rK .u64) closed))))),(79,.pl (.one (.v (.sc (.int .i64 (closed.length:Int)))))),(80,.pl (.one (.v (.sc (.int .i64 x80)))))],[(3,.box true [.list false 1 (List.map (rL false 1 (rK .i64)) w.Parents),.list false 4 (List.map (zA false) w.Bodies)]),(4,.list true 1 (List.map (rK .i64) born))]⟩) [2,5,78,79,80] [(3,3),(4,4)] 5 rfl ?_
   rintro x80 _ rfl y1'
   change Tl _ (impl_bodiesOk_l1 w closed born x80) _ _; unfold impl_bodiesOk_l1
   refine go ?_
   refine sq ?_
   refine go ?_
   refine sp ?_ ?_
   ·refine go ?_
    refine sq ?_
    refine go ?_; intro x v'
    refine go ?_; intro x_1 v'
    refine go ?_
    refine gc 5 (fun b e'=>e'=⟨97,3,5,[(2,.pl (.one (.ref 3 []))),(5,.pl (.one (.ref 4 []))),(78,.pl (.one (.v (.list false 1 (List.map (rK .u64) closed))))),(79,.pl (.one (.v (.sc (.int .i64 (closed.length:Int)))))),(80,.pl (.one (.v (.sc (.int .i64 x80))))),(95,.pl (.one (.v (.sc (.bool b)))))],[(3,.box true [.list false 1 (List.map (rL false 1 (rK .i64)) w.Parents),.list false 4 (List.map (zA false) w.Bodies)]),(4,.list true 1 (List.map (rK .i64) born))]⟩) ?_ ?_
    ·intro p
     refine opsV_spR ?_ ?_
     ·refine go ?_
      exact ge [2,5,78,79,80,95] [(3,3),(4,4)] 5 rfl
     ·refine go ?_; intro x92
      refine go ?_
      exact ge [2,5,78,79,80,95] [(3,3),(4,4)] 5 rfl
    ·rintro b _ rfl
     refine go ?_
     refine sp ?_ ?_
     ·exact gz
     ·refine go ?_
      exact bk [2,5,78,79,80] [(3,3),(4,4)] 5 rfl
   ·refine go ?_
    exact je [] [] 3 fun h=>⟨h,rfl⟩
  ·rintro e' ⟨h,rfl⟩; refine tl h ?_; unfold impl_bodiesOk_j2
   exact gz
instance W_impl_WeaveOk:∀ w,Wlk X (impl_WeaveOk w) 41 [] [.agg [.list false 1 (List.map (rL false 1 (rK .i64)) w.Parents),.list false 4 (List.map (zA false) w.Bodies)]] (fun r'=>[.one (.sc (.bool r'))]) (fun r'=>[]):=fun w=>by
 refine ws f41 19 [.tmp 2] (h2 t3 (h2 t24 (h2 t25 (h2 t27 (h2 R_Li64 (h2 zV (h2 R_i64 R_u64))))))) ?_
 intro r'; unfold impl_WeaveOk
 refine go ?_
 refine bx ?_; intro b gh0_1_0
 refine bx ?_; intro b_1 gh1_1_0
 refine jr (fun e'=>e'=⟨19,2,2,[(2,.pl (.one (.v (.sc (.bool b_1)))))],[]⟩) ?_ ?_
 ·refine rc [0,1,2,3,4,5,6,7,8,9,10,11,12,13,14,15,16] ?_
  refine go ?_
  refine cs (fun c0=>?_) (fun c0=>?_)
  ·replace gh0_1_0:=(ifT c0).symm.trans gh0_1_0
   obtain ⟨x10,hy_x10,gh0_1_0⟩:=zbi gh0_1_0
   obtain rfl:=zso gh0_1_0
   refine go ?_
   refine cc hy_x10 ?_
   refine go ?_
   refine cs (fun c1=>?_) (fun c1=>?_)
   ·replace gh1_1_0:=(ifT c1).symm.trans gh1_1_0
    obtain ⟨x16,hy_x16,gh1_1_0⟩:=zbi gh1_1_0
    obtain ⟨x17,hy_x17,gh1_1_0⟩:=zbi gh1_1_0
    obtain rfl:=zso gh1_1_0
    refine go ?_
    refine cc hy_x16 ?_
    refine cc hy_x17 ?_
    refine go ?_
    exact gq [2] [] 2 rfl
   ·replace gh1_1_0:=(ifF c1).symm.trans gh1_1_0
    obtain rfl:=zso gh1_1_0
    refine go ?_
    exact gq [2] [] 2 rfl
  ·replace gh0_1_0:=(ifF c0).symm.trans gh0_1_0
   obtain rfl:=zso gh0_1_0
   refine go ?_
   replace gh1_1_0:=(ifF rfl).symm.trans gh1_1_0
   obtain rfl:=zso gh1_1_0
   refine go ?_
   exact gq [2] [] 2 rfl
 ·rintro e' rfl; refine cn ?_
  exact gz
instance W_slices_Index_int_int:∀ s v,Wlk X (jD s v) 183 [] [.one (.list false 1 (List.map (rK .i64) s)),.one (.sc (.int .i64 v))] (fun r'=>[.one (.sc (.int .i64 r'))]) (fun r'=>[]):=fun s v=>by
 refine ws f183 19 [.tmp 4] (h2 t3 (h2 t39 R_i64)) ?_
 intro r'; unfold jD
 refine go ?_
 refine jn (fun e'=>slices_Index_int_int_j1=some r'∧e'=⟨19,2,2,[],[]⟩) ?_ ?_
 ·refine go ?_
  refine lp (fun x8 e'=>e'=⟨19,2,2,[(0,.pl (.one (.v (.list false 1 (List.map (rK .i64) s))))),(1,.pl (.one (.v (.sc (.int .i64 v))))),(7,.pl (.one (.v (.sc (.int .i64 (s.length:Int)))))),(8,.pl (.one (.v (.sc (.int .i64 x8)))))],[]⟩) [0,1,7,8] [] 2 rfl ?_
  rintro x8 _ rfl y1'
  change Tl _ (qS s v x8) _ _; unfold qS
  refine go ?_
  refine sq ?_
  refine go ?_
  refine sp ?_ ?_
  ·refine go ?_
   refine sq ?_
   refine go ?_; intro x v'
   refine go ?_
   refine sp ?_ ?_
   ·exact gz
   ·refine go ?_
    exact bk [0,1,7,8] [] 2 rfl
  ·refine go ?_
   exact je [] [] 2 fun h=>⟨h,rfl⟩
 ·rintro e' ⟨h,rfl⟩; refine tl h ?_; unfold slices_Index_int_int_j1
  exact gz
instance W_slices_Contains_int_int:∀ s v,Wlk X (qK s v) 188 [] [.one (.list false 1 (List.map (rK .i64) s)),.one (.sc (.int .i64 v))] (fun r'=>[.one (.sc (.bool r'))]) (fun r'=>[]):=fun s v=>by
 refine ws f188 9 [.tmp 4] (h2 t3 R_i64) ?_
 intro r'; unfold qK
 refine go ?_; intro x7
 exact gz
instance W_impl_marks:∀ ins dels nextIns nextDels,Wlk X (impl_marks ins dels nextIns nextDels) 181 [] [.one (.sc (.int .i64 ins)),.one (.list false 1 (List.map (rK .i64) dels)),.one (.sc (.int .i64 nextIns)),.one (.list false 1 (List.map (rK .i64) nextDels))] (fun r'=>[.one (.list true 3 (List.map (zC true) r'))]) (fun r'=>[]):=fun ins dels nextIns nextDels=>by
 refine ws f181 76 [.tmp 8] (h2 t3 (h2 t9 (h2 t30 (h2 t39 (h2 t114 (h2 R_T_impl_Rec R_i64)))))) ?_
 intro r'; unfold impl_marks
 refine go ?_
 refine lf ?_ (fun a g=>opsV_nilA a 3 g)
 refine go ?_
 refine lf ?_ (fun a g=>opsV_nilA a 3 g)
 refine go ?_
 refine jn (fun e'=>∃ out_,impl_marks_j1 ins dels nextIns nextDels out_=some r'∧e'=⟨76,4,5,[(0,.pl (.one (.v (.sc (.int .i64 ins))))),(1,.pl (.one (.v (.list false 1 (List.map (rK .i64) dels))))),(2,.pl (.one (.v (.sc (.int .i64 nextIns))))),(3,.pl (.one (.v (.list false 1 (List.map (rK .i64) nextDels))))),(9,.pl (.one (.ref 4 [])))],[(4,.list true 3 (List.map (zC true) out_))]⟩) ?_ ?_
 ·refine go ?_
  refine lp (fun s' e'=>∃ i out__5,s'=(i,out__5)∧e'=⟨76,4,5,[(0,.pl (.one (.v (.sc (.int .i64 ins))))),(1,.pl (.one (.v (.list false 1 (List.map (rK .i64) dels))))),(2,.pl (.one (.v (.sc (.int .i64 nextIns))))),(3,.pl (.one (.v (.list false 1 (List.map (rK .i64) nextDels))))),(9,.pl (.one (.ref 4 []))),(10,.pl (.one (.v (.sc (.int .i64 i)))))],[(4,.list true 3 (List.map (zC true) out__5))]⟩) [0,1,2,3,9,10] [(5,4)] 5 ⟨_,_,rfl,rfl⟩ ?_
  rintro s' _ ⟨i,out__5,rfl,rfl⟩ y1'
  change Tl _ (impl_marks_l2 dels nextDels i out__5) _ _; unfold impl_marks_l2
  refine sq ?_
  refine go ?_
  refine sp ?_ ?_
  ·refine go ?_
   refine sq ?_
   refine go ?_; intro x_1 v'
   refine go ?_; intro x25
   refine go ?_
   refine sp ?_ ?_
   ·refine go ?_; intro l_3 v'
    refine go ?_
    exact bk [0,1,2,3,9,10] [(4,4)] 5 ⟨_,_,rfl,rfl⟩
   ·refine go ?_
    exact bk [0,1,2,3,9,10] [(4,4)] 5 ⟨_,_,rfl,rfl⟩
  ·refine go ?_
   exact je [0,1,2,3,9] [(4,4)] 5 fun h=>⟨_,h,rfl⟩
 ·rintro e' ⟨out_,h,rfl⟩; refine tl h ?_; unfold impl_marks_j1
  refine jn (fun e'=>∃ out__1,impl_marks_j2 ins dels nextIns nextDels out__1=some r'∧e'=⟨76,4,5,[(0,.pl (.one (.v (.sc (.int .i64 ins))))),(1,.pl (.one (.v (.list false 1 (List.map (rK .i64) dels))))),(2,.pl (.one (.v (.sc (.int .i64 nextIns))))),(3,.pl (.one (.v (.list false 1 (List.map (rK .i64) nextDels))))),(9,.pl (.one (.ref 4 [])))],[(4,.list true 3 (List.map (zC true) out__1))]⟩) ?_ ?_
  ·refine go ?_
   refine gc 3 (fun b_1 e'=>e'=⟨76,4,5,[(0,.pl (.one (.v (.sc (.int .i64 ins))))),(1,.pl (.one (.v (.list false 1 (List.map (rK .i64) dels))))),(2,.pl (.one (.v (.sc (.int .i64 nextIns))))),(3,.pl (.one (.v (.list false 1 (List.map (rK .i64) nextDels))))),(9,.pl (.one (.ref 4 []))),(41,.pl (.one (.v (.sc (.bool b_1)))))],[(4,.list true 3 (List.map (zC true) out_))]⟩) ?_ ?_
   ·intro p
    refine opsV_spL ?_ ?_
    ·refine go ?_
     exact ge [0,1,2,3,9,41] [(4,4)] 5 rfl
    ·refine go ?_
     exact ge [0,1,2,3,9,41] [(4,4)] 5 rfl
   ·rintro b_1 _ rfl
    refine go ?_
    refine sp ?_ ?_
    ·refine go ?_; intro l_2 v'
     refine go ?_
     exact je [0,1,2,3,9] [(4,4)] 5 fun h=>⟨_,h,rfl⟩
    ·refine go ?_
     exact je [0,1,2,3,9] [(4,4)] 5 fun h=>⟨_,h,rfl⟩
  ·rintro e' ⟨out__1,h,rfl⟩; refine tl h ?_; unfold impl_marks_j2
   refine jn (fun e'=>∃ out__2,impl_marks_j3 dels nextDels out__2=some r'∧e'=⟨76,4,5,[(1,.pl (.one (.v (.list false 1 (List.map (rK .i64) dels))))),(3,.pl (.one (.v (.list false 1 (List.map (rK .i64) nextDels))))),(9,.pl (.one (.ref 4 [])))],[(4,.list true 3 (List.map (zC true) out__2))]⟩) ?_ ?_
   ·refine go ?_
    refine gc 3 (fun b e'=>e'=⟨76,4,5,[(1,.pl (.one (.v (.list false 1 (List.map (rK .i64) dels))))),(2,.pl (.one (.v (.sc (.int .i64 nextIns))))),(3,.pl (.one (.v (.list false 1 (List.map (rK .i64) nextDels))))),(9,.pl (.one (.ref 4 []))),(53,.pl (.one (.v (.sc (.bool b)))))],[(4,.list true 3 (List.map (zC true) out__1))]⟩) ?_ ?_
    ·intro p
     refine opsV_spL ?_ ?_
     ·refine go ?_
      exact ge [1,2,3,9,53] [(4,4)] 5 rfl
     ·refine go ?_
      exact ge [1,2,3,9,53] [(4,4)] 5 rfl
    ·rintro b _ rfl
     refine go ?_
     refine sp ?_ ?_
     ·refine go ?_; intro l_1 v'
      refine go ?_
      exact je [1,3,9] [(4,4)] 5 fun h=>⟨_,h,rfl⟩
     ·refine go ?_
      exact je [1,3,9] [(4,4)] 5 fun h=>⟨_,h,rfl⟩
   ·rintro e' ⟨out__2,h,rfl⟩; refine tl h ?_; unfold impl_marks_j3
    refine jn (fun e'=>∃ out__3,impl_marks_j4 out__3=some r'∧e'=⟨76,4,5,[(9,.pl (.one (.ref 4 [])))],[(4,.list true 3 (List.map (zC true) out__3))]⟩) ?_ ?_
    ·refine go ?_
     refine lp (fun s' e'=>∃ x61 out__4,s'=(x61,out__4)∧e'=⟨76,4,5,[(1,.pl (.one (.v (.list false 1 (List.map (rK .i64) dels))))),(9,.pl (.one (.ref 4 []))),(59,.pl (.one (.v (.list false 1 (List.map (rK .i64) nextDels))))),(60,.pl (.one (.v (.sc (.int .i64 (nextDels.length:Int)))))),(61,.pl (.one (.v (.sc (.int .i64 x61)))))],[(4,.list true 3 (List.map (zC true) out__4))]⟩) [1,9,59,60,61] [(4,4)] 5 ⟨_,_,rfl,rfl⟩ ?_
     rintro s' _ ⟨x61,out__4,rfl,rfl⟩ y1'
     change Tl _ (impl_marks_l1 dels nextDels x61 out__4) _ _; unfold impl_marks_l1
     refine go ?_
     refine sq ?_
     refine go ?_
     refine sp ?_ ?_
     ·refine go ?_
      refine sq ?_
      refine go ?_; intro x v'
      refine go ?_; intro x67
      refine go ?_
      refine sp ?_ ?_
      ·refine go ?_; intro l v'
       refine go ?_
       exact bk [1,9,59,60,61] [(4,4)] 5 ⟨_,_,rfl,rfl⟩
      ·refine go ?_
       exact bk [1,9,59,60,61] [(4,4)] 5 ⟨_,_,rfl,rfl⟩
     ·refine go ?_
      exact je [9] [(4,4)] 5 fun h=>⟨_,h,rfl⟩
    ·rintro e' ⟨out__3,h,rfl⟩; refine tl h ?_; unfold impl_marks_j4
     exact gz
instance W_impl_records:∀ w,Wlk X (impl_records w) 69 [] [.agg [.list false 1 (List.map (rL false 1 (rK .i64)) w.Parents),.list false 4 (List.map (zA false) w.Bodies)]] (fun r'=>[.one (.list true 3 (List.map (zC true) r'))]) (fun r'=>[]):=fun w=>by
 refine ws f69 40 [.tmp 2] (h2 t3 (h2 t9 (h2 t25 (h2 t27 (h2 t30 (h2 t39 (h2 t46 (h2 t114 (h2 R_Li64 (h2 zV (h2 R_T_impl_Rec R_i64))))))))))) ?_
 intro r'; unfold impl_records
 refine go ?_
 refine lf ?_ (fun a g=>opsV_nilA a 3 g)
 refine go ?_
 refine lf ?_ (fun a g=>opsV_nilA a 3 g)
 refine go ?_
 refine l1 ?_
 refine go ?_
 refine jn (fun e'=>∃ ins dels out_,impl_records_j1 ins dels out_=some r'∧e'=⟨40,2,3,[(3,.pl (.one (.ref 2 []))),(4,.pl (.one (.v (.sc (.int .i64 ins))))),(5,.pl (.one (.v (.list false 1 (List.map (rK .i64) dels)))))],[(2,.list true 3 (List.map (zC true) out_))]⟩) ?_ ?_
 ·refine go ?_
  refine tF 5 ?_
  refine go ?_
  refine lp (fun s' e'=>∃ ins_1 dels_1 x11 out__1,s'=(ins_1,dels_1,x11,out__1)∧e'=⟨40,2,3,[(3,.pl (.one (.ref 2 []))),(4,.pl (.one (.v (.sc (.int .i64 ins_1))))),(5,.pl (.one (.v (.list false 1 (List.map (rK .i64) dels_1))))),(9,.pl (.one (.v (.list false 4 (List.map (zA false) w.Bodies))))),(10,.pl (.one (.v (.sc (.int .i64 (w.Bodies.length:Int)))))),(11,.pl (.one (.v (.sc (.int .i64 x11)))))],[(2,.list true 3 (List.map (zC true) out__1))]⟩) [3,4,5,9,10,11] [(4,2)] 3 ⟨_,_,_,_,rfl,rfl⟩ ?_
  rintro s' _ ⟨ins_1,dels_1,x11,out__1,rfl,rfl⟩ y1'
  change Tl _ (impl_records_l1 w ins_1 dels_1 x11 out__1) _ _; unfold impl_records_l1
  refine go ?_
  refine sq ?_
  refine go ?_
  refine sp ?_ ?_
  ·refine go ?_
   refine sq ?_
   refine go ?_; intro x v'
   refine go ?_
   refine l1 ?_
   refine go ?_; intro x22
   refine go ?_; intro l_1 v'
   refine go ?_; intro l_2 v'
   refine go ?_
   refine rq ?_
   refine go ?_
   exact bk [3,4,5,9,10,11] [(2,2)] 3 ⟨_,_,_,_,rfl,rfl⟩
  ·refine go ?_
   exact je [3,4,5] [(2,2)] 3 fun h=>⟨_,_,_,h,rfl⟩
 ·rintro e' ⟨ins,dels,out_,h,rfl⟩; refine tl h ?_; unfold impl_records_j1
  refine go ?_
  refine cN [(3,false,1)] ?_; intro x38
  refine go ?_; intro l v'
  exact gz
instance W_impl_Records:∀ w,Wlk X (impl_Records w) 15 [] [.agg [.list false 1 (List.map (rL false 1 (rK .i64)) w.Parents),.list false 4 (List.map (zA false) w.Bodies)]] (fun r'=>[.one (.list true 3 (List.map (zC true) r'.1)),.one (.sc (.bool r'.2))]) (fun r'=>[]):=fun w=>by
 refine ws f15 14 [.tmp 2,.tmp 3] (h2 t3 (h2 t27 (h2 t30 (h2 R_Li64 (h2 zV (h2 R_T_impl_Rec R_i64)))))) ?_
 intro r'; unfold impl_Records
 refine go ?_
 refine lf ?_ (fun a g=>opsV_nilA a 3 g)
 refine go ?_
 refine sq ?_
 refine go ?_; intro x6
 refine go ?_
 refine sp ?_ ?_
 ·refine go ?_
  refine lf ?_ (fun a g=>opsV_nilA a 3 g)
  exact gz
 ·refine go ?_; intro x9
  refine go ?_
  refine sq ?_
  refine go ?_
  refine sp ?_ ?_
  ·refine go ?_
   refine lf ?_ (fun a g=>opsV_nilA a 3 g)
   exact gz
  ·exact gz
theorem W_slices_Clone_int_int (s:List Int) (r':List Int) (h0':slices_Clone_int_int s=some r'):Fn X 153 [.one (.list false 1 (List.map (rK .i64) s))] [.one (.list true 1 (List.map (rK .i64) r'))] []:=by
 have H':=And.intro t3 (And.intro t39 (R_i64))
 unfold slices_Clone_int_int at h0'
 refine Fn.start (fn:=f153) (N:=8) (res:=[.tmp 2]) rfl rfl rfl rfl rfl (by simp) ?_
 refine enterG H' ?_
 refine wpV_seq1 ?_
 refine wpV_region ?_
 refine ops H' ?_
 refine opsN ?_
 refine wpV_seq1 ?_
 refine wpV_seq1 ?_
 refine wpV_region ?_
 refine ops H' ?_
 refine opsV_nilEq H' (fun b' hb'=>?_)
 refine opsN ?_
 refine wpV_split (fun hc'=>?_) (fun hc'=>?_)
 ·have hs':s=[]:=by simpa using hb' hc'
  subst hs'
  obtain rfl:r'=[]:=by simpa [appn] using h0'.symm
  refine wpV_seq1 ?_
  refine wpV_region ?_
  refine ops H' ?_
  refine opsN ?_
  refine retN ?_
  exact outG H' rfl rfl
 ·refine skipN ?_
  refine wpV_seq1 ?_
  refine wpV_region ?_
  have H':=And.intro (appz_f (rK .i64) h0') H'
  refine ops H' ?_
  refine opsN ?_
  refine retN ?_
  exact outG H' rfl rfl
instance:∀ s,Wlk X (slices_Clone_int_int s) 153 [] [.one (.list false 1 (List.map (rK .i64) s))] (fun r'=>[.one (.list true 1 (List.map (rK .i64) r'))]) (fun r'=>[]):=fun s=>⟨fun r' h=>W_slices_Clone_int_int s r' h⟩
instance W_impl_copyGraph:∀ parents,Wlk X (impl_copyGraph parents) 71 [] [.one (.list false 1 (List.map (rL false 1 (rK .i64)) parents))] (fun r'=>[.one (.list true 1 (List.map (rL true 1 (rK .i64)) r'))]) (fun r'=>[]):=fun parents=>by
 refine ws f71 19 [.tmp 2] (h2 t3 (h2 t24 (h2 t39 (h2 R_Li64 R_i64)))) ?_
 intro r'; unfold impl_copyGraph
 refine go ?_
 refine l1 ?_
 refine go ?_
 refine l1 ?_
 refine go ?_
 refine jn (fun e'=>∃ out_,impl_copyGraph_j1 out_=some r'∧e'=⟨19,1,2,[(3,.pl (.one (.ref 1 [])))],[(1,.list true 1 (List.map (rL true 1 (rK .i64)) out_))]⟩) ?_ ?_
 ·refine go ?_
  refine lp (fun s' e'=>∃ x8 out__1,s'=(x8,out__1)∧e'=⟨19,1,2,[(3,.pl (.one (.ref 1 []))),(6,.pl (.one (.v (.list false 1 (List.map (rL false 1 (rK .i64)) parents))))),(7,.pl (.one (.v (.sc (.int .i64 (parents.length:Int)))))),(8,.pl (.one (.v (.sc (.int .i64 x8)))))],[(1,.list true 1 (List.map (rL true 1 (rK .i64)) out__1))]⟩) [3,6,7,8] [(2,1)] 2 ⟨_,_,rfl,rfl⟩ ?_
  rintro s' _ ⟨x8,out__1,rfl,rfl⟩ y1'
  change Tl _ (impl_copyGraph_l1 parents x8 out__1) _ _; unfold impl_copyGraph_l1
  refine go ?_
  refine sq ?_
  refine go ?_
  refine sp ?_ ?_
  ·refine go ?_
   refine sq ?_
   refine go ?_; intro x v'
   refine go ?_; intro x14
   refine go ?_; intro l v'
   refine go ?_
   exact bk [3,6,7,8] [(1,1)] 2 ⟨_,_,rfl,rfl⟩
  ·refine go ?_
   exact je [3] [(1,1)] 2 fun h=>⟨_,h,rfl⟩
 ·rintro e' ⟨out_,h,rfl⟩; refine tl h ?_; unfold impl_copyGraph_j1
  exact gz
theorem W_slices_Delete_int_int (s:List Int) (i:Int) (j:Int) (r':List Int) (h0':jH s i j=some r'):Fn X 184 [.one (.list true 1 (List.map (rK .i64) s)),.one (.sc (.int .i64 i)),.one (.sc (.int .i64 j))] [.one (.list true 1 (List.map (rK .i64) r'))] []:=by
 unfold jH at h0'
 split at h0'
 case isFalse=>cases h0'
 rename_i hs
 unfold del1 at h0'
 split at h0'
 case isFalse=>cases h0'
 rename_i hd
 obtain rfl:=zso h0'
 obtain ⟨i,rfl⟩:=Int.eq_ofNat_of_zero_le hd.1
 obtain ⟨j,rfl⟩:=Int.eq_ofNat_of_zero_le (Int.le_trans hd.1 hd.2.1)
 have:=del_fn (X:=X) (f:=184) (k:=1) (rows:=List.map ((rK .i64)) s) (i:=i) (j:=j) delRaw184 (by decide) (by omega) (by rw [List.length_map]; omega) (by rw [List.length_map]; exact hs) (by unfold qE; rw [List.all_map]; exact List.all_eq_true.2 (fun x _=>rfl))
 rw [← List.map_take,← List.map_drop,← List.map_append] at this
 exact this
instance:∀ s i j,Wlk X (jH s i j) 184 [0] [.one (.list true 1 (List.map (rK .i64) s)),.one (.sc (.int .i64 i)),.one (.sc (.int .i64 j))] (fun r'=>[.one (.list true 1 (List.map (rK .i64) r'))]) (fun r'=>[]):=fun s i j=>⟨fun r' h=>W_slices_Delete_int_int s i j r' h⟩
instance W_impl_walker_mark:∀ o r,Wlk X (qO o r) 72 [0] [.one (.box true [.sc (.bool o.open_),.sc (.int .i64 o.ins),.list true 1 (List.map (rK .i64) o.dels)]),.agg [.sc (.int .i64 r.Kind),.sc (.int .i64 r.Version),.sc (.string r.Line)]] (fun r'=>[.one (.sc (.bool r'.1))]) (fun r'=>[(0,.box true [.sc (.bool r'.2.open_),.sc (.int .i64 r'.2.ins),.list true 1 (List.map (rK .i64) r'.2.dels)])]):=fun o r=>by
 refine ws f72 84 [.tmp 4] (h2 t3 (h2 t4 (h2 t39 (h2 t112 (h2 t114 R_i64))))) ?_
 intro r'; unfold qO
 refine go ?_
 refine rq ?_
 refine go ?_; intro x12
 refine go ?_
 refine sq ?_
 refine go ?_
 refine sp ?_ ?_
 ·refine sq ?_
  refine go ?_
  refine sp ?_ ?_
  ·exact gz
  ·refine go ?_
   refine rc [0,1,2,4,5,3,6,7,8,9] ?_
   exact gz
 ·refine go ?_
  refine sp ?_ ?_
  ·refine sq ?_
   refine go ?_
   refine rq ?_
   refine go ?_
   refine qc 8 (fun b e'=>e'=⟨84,4,4,[(0,.pl (.one (.ref 0 []))),(44,.pl (.one (.v (.sc (.bool b)))))],[(0,.box true [.sc (.bool o.open_),.sc (.int .i64 o.ins),.list true 1 (List.map (rK .i64) o.dels)])]⟩) ?_ ?_
   ·intro p
    refine quV_spR ?_ ?_
    ·refine go ?_
     exact ge [0,44] [(0,0)] 4 rfl
    ·refine go ?_
     exact ge [0,44] [(0,0)] 4 rfl
   ·rintro b _ rfl
    refine go ?_
    refine sp ?_ ?_
    ·exact gz
    ·exact gz
  ·refine go ?_
   refine sp ?_ ?_
   ·refine sq ?_
    refine go ?_
    refine sp ?_ ?_
    ·exact gz
    ·refine go ?_
     refine rc [0,1,2,3,5,4,6,7,8,9,10,11] ?_
     refine go ?_; intro l v'
     exact gz
   ·refine go ?_
    refine sp ?_ ?_
    ·refine sq ?_
     refine go ?_
     refine sp ?_ ?_
     ·exact gz
     ·refine go ?_; intro x75
      exact gz
    ·refine go ?_
     refine sp ?_ ?_
     ·exact gz
     ·exact gz
instance W_slices_Values_int_int:∀ s,Wlk X (slices_Values_int_int s) 75 [] [.one (.list false 1 (List.map (rK .i64) s))] (fun r'=>[.one (.fn 187 [.box false [.list false 1 (List.map (rK .i64) r')]])]) (fun _=>[]):=fun s=>⟨fun r' h=>by
 obtain rfl:=zso h
 exact values_fn sortRaw75⟩
instance W_slices_Sorted_int:∀ s,Wlk X (slices_Sorted_int s) 74 [] [.one (.fn 187 [.box false [.list false 1 (List.map (rK .i64) s)]])] (fun r'=>[.one (.list true 1 (List.map (rK .i64) r'))]) (fun _=>[]):=fun s=>⟨fun r' h=>by
 unfold slices_Sorted_int at h
 split at h
 case isFalse=>cases h
 rename_i hs
 obtain rfl:=zso h
 exact sorted_fn sortRaw75 hs⟩
instance W_slices_Equal_impl_Rec_impl_Rec:∀ s1 s2,Wlk X (qT s1 s2) 76 [] [.one (.list false 3 (List.map (zC true) s1)),.one (.list false 3 (List.map (zC true) s2))] (fun r'=>[.one (.sc (.bool r'))]) (fun r'=>[]):=fun s1 s2=>by
 refine ws f76 26 [.tmp 4] (h2 t3 (h2 t9 (h2 t30 (h2 t114 R_T_impl_Rec)))) ?_
 intro r'; unfold qT
 refine go ?_
 refine sq ?_
 refine go ?_
 refine sp ?_ ?_
 ·exact gz
 ·refine go ?_
  refine jn (fun e'=>slices_Equal_impl_Rec_impl_Rec_j1=some r'∧e'=⟨26,2,2,[],[]⟩) ?_ ?_
  ·refine go ?_
   refine lp (fun x13 e'=>e'=⟨26,2,2,[(0,.pl (.one (.v (.list false 3 (List.map (zC true) s1))))),(1,.pl (.one (.v (.list false 3 (List.map (zC true) s2))))),(12,.pl (.one (.v (.sc (.int .i64 (s1.length:Int)))))),(13,.pl (.one (.v (.sc (.int .i64 x13)))))],[]⟩) [0,1,12,13] [] 2 rfl ?_
   rintro x13 _ rfl y1'
   change Tl _ (qC s1 s2 x13) _ _; unfold qC
   refine go ?_
   refine sq ?_
   refine go ?_
   refine sp ?_ ?_
   ·refine go ?_
    refine sq ?_
    refine go ?_
    refine rq ?_
    refine go ?_; intro x v'
    refine go ?_; intro x_1 v'
    refine go ?_
    refine lf ?_ (fun a g=>quV_cmp a (by kernel_rfl) g)
    refine go ?_
    refine sp ?_ ?_
    ·exact gz
    ·refine go ?_
     exact bk [0,1,12,13] [] 2 rfl
   ·refine go ?_
    exact je [] [] 2 fun h=>⟨h,rfl⟩
  ·rintro e' ⟨h,rfl⟩; refine tl h ?_; unfold slices_Equal_impl_Rec_impl_Rec_j1
   exact gz
instance W_impl_FromRecords:∀ parents list_,Wlk X (impl_FromRecords parents list_) 16 [] [.one (.list false 1 (List.map (rL false 1 (rK .i64)) parents)),.one (.list false 3 (List.map (zC true) list_))] (fun r'=>[.agg [.list true 1 (List.map (rL true 1 (rK .i64)) r'.1.Parents),.list true 4 (List.map (zA true) r'.1.Bodies)],.one (.sc (.bool r'.2))]) (fun r'=>[]):=fun parents list_=>by
 refine ws f16 86 [.cell 4 27,.tmp 5] (h2 t3 (h2 t4 (h2 t9 (h2 t24 (h2 t25 (h2 t27 (h2 t30 (h2 t39 (h2 t46 (h2 t112 (h2 t114 (h2 R_Li64 (h2 zV (h2 R_T_impl_Rec R_i64)))))))))))))) ?_
 intro r'; unfold impl_FromRecords
 refine go ?_
 refine l1 ?_
 refine go ?_
 refine sq ?_
 refine go ?_
 refine gc 4 (fun b e'=>e'=⟨86,2,3,[(0,.pl (.one (.v (.list false 1 (List.map (rL false 1 (rK .i64)) parents))))),(1,.pl (.one (.v (.list false 3 (List.map (zC true) list_))))),(4,.pl (.one (.ref 2 []))),(18,.pl (.one (.v (.sc (.bool b)))))],[(2,.box true [.list true 1 (List.map (rL true 1 (rK .i64)) []),.list true 4 (List.map (zA true) [])])]⟩) ?_ ?_
 ·intro p
  refine opsV_spR ?_ ?_
  ·refine go ?_
   exact ge [0,1,4,18] [(2,2)] 3 rfl
  ·refine go ?_; intro x16
   refine go ?_
   exact ge [0,1,4,18] [(2,2)] 3 rfl
 ·rintro b _ rfl
  refine go ?_
  refine sp ?_ ?_
  ·exact gz
  ·refine go ?_; intro x21
   refine go ?_
   refine l1 ?_
   refine go ?_
   refine l1 ?_
   refine go ?_; intro x26 v'
   refine go ?_
   refine jn (fun e'=>∃ w,impl_FromRecords_j1 list_ x21 w=some r'∧e'=⟨86,2,4,[(1,.pl (.one (.v (.list false 3 (List.map (zC true) list_))))),(4,.pl (.one (.ref 2 []))),(6,.pl (.one (.ref 3 [])))],[(2,.box true [.list true 1 (List.map (rL true 1 (rK .i64)) []),.list true 4 (List.map (zA true) [])]),(3,.box true [.list true 1 (List.map (rL true 1 (rK .i64)) x21),.list true 4 (List.map (zA true) w)])]⟩) ?_ ?_
   ·refine go ?_
    refine lp (fun s' e'=>∃ x29 w_1 o o_1 o_2 born,s'=(x29,w_1,o,o_1,o_2,born)∧e'=⟨86,2,6,[(0,.pl (.one (.v (.list false 1 (List.map (rL false 1 (rK .i64)) parents))))),(1,.pl (.one (.v (.list false 3 (List.map (zC true) list_))))),(4,.pl (.one (.ref 2 []))),(6,.pl (.one (.ref 3 []))),(7,.pl (.one (.ref 4 []))),(8,.pl (.one (.ref 5 []))),(27,.pl (.one (.v (.list false 3 (List.map (zC true) list_))))),(28,.pl (.one (.v (.sc (.int .i64 (list_.length:Int)))))),(29,.pl (.one (.v (.sc (.int .i64 x29)))))],[(2,.box true [.list true 1 (List.map (rL true 1 (rK .i64)) []),.list true 4 (List.map (zA true) [])]),(3,.box true [.list true 1 (List.map (rL true 1 (rK .i64)) x21),.list true 4 (List.map (zA true) w_1)]),(4,.box true [.sc (.bool o),.sc (.int .i64 o_1),.list true 1 (List.map (rK .i64) o_2)]),(5,.list true 1 (List.map (rK .i64) born))]⟩) [0,1,4,6,7,8,27,28,29] [(2,2),(4,3),(5,4),(6,5)] 6 ⟨_,_,_,_,_,_,rfl,rfl⟩ ?_
    rintro s' _ ⟨x29,w_1,o,o_1,o_2,born,rfl,rfl⟩ y1'
    change Tl _ (jG parents list_ x29 w_1 o o_1 o_2 born) _ _; unfold jG
    refine go ?_
    refine sq ?_
    refine go ?_
    refine sp ?_ ?_
    ·refine go ?_
     refine sq ?_
     refine go ?_; intro x v'
     refine go ?_
     refine l1 ?_
     refine go ?_
     refine sq ?_
     refine go ?_; intro x34
     refine go ?_
     refine sp ?_ ?_
     ·exact gz
     ·refine go ?_
      refine sq ?_
      refine go ?_
      refine sp ?_ ?_
      ·refine go ?_
       exact bk [0,1,4,6,7,8,27,28,29] [(2,2),(3,3),(4,4),(5,5)] 6 ⟨_,_,_,_,_,_,rfl,rfl⟩
      ·refine go ?_
       refine sq ?_
       refine go ?_; intro x44
       refine go ?_
       refine sp ?_ ?_
       ·exact gz
       ·refine go ?_
        refine rO 4 [0,2,4,6,7,11,1,3,5,8,9,10,12,13,14,15,16,17,18,19] ?_
        refine go ?_; intro x_1 v'
        refine go ?_; intro x60
        refine go ?_; intro x61
        refine go ?_; intro l v'
        refine go ?_
        refine bO 4 [0,1,7,27,28,29] [4,6,8] ?_
        refine go ?_; intro x_2 v'
        refine go ?_
        exact bk [0,1,4,6,7,8,27,28,29] [(2,2),(3,3),(4,4),(5,5)] 6 ⟨_,_,_,_,_,_,rfl,rfl⟩
    ·refine go ?_
     exact je [1,4,6] [(2,2),(3,3)] 4 fun h=>⟨_,h,rfl⟩
   ·rintro e' ⟨w,h,rfl⟩; refine tl h ?_; unfold impl_FromRecords_j1
    refine sq ?_
    refine go ?_; intro x75
    refine go ?_
    refine gc 6 (fun b_1 e'=>e'=⟨86,2,4,[(4,.pl (.one (.ref 2 []))),(6,.pl (.one (.ref 3 []))),(83,.pl (.one (.v (.sc (.bool b_1)))))],[(2,.box true [.list true 1 (List.map (rL true 1 (rK .i64)) []),.list true 4 (List.map (zA true) [])]),(3,.box true [.list true 1 (List.map (rL true 1 (rK .i64)) x21),.list true 4 (List.map (zA true) w)])]⟩) ?_ ?_
    ·intro p
     refine opsV_spR ?_ ?_
     ·refine go ?_
      exact ge [4,6,83] [(2,2),(3,3)] 4 rfl
     ·refine go ?_; intro x79
      refine go ?_; intro x81
      refine go ?_
      exact ge [4,6,83] [(2,2),(3,3)] 4 rfl
    ·rintro b_1 _ rfl
     refine go ?_
     refine sp ?_ ?_
     ·exact gz
     ·exact gz
instance W_laws_sameInts:∀ a b,Wlk X (laws_sameInts a b) 51 [] [.one (.list false 1 (List.map (rK .i64) a)),.one (.list false 1 (List.map (rK .i64) b))] (fun r'=>[.one (.sc (.bool r'))]) (fun r'=>[]):=fun a b=>by
 refine ws f51 26 [.tmp 4] (h2 t3 (h2 t39 R_i64)) ?_
 intro r'; unfold laws_sameInts
 refine go ?_
 refine sq ?_
 refine go ?_
 refine sp ?_ ?_
 ·exact gz
 ·refine go ?_
  refine jn (fun e'=>laws_sameInts_j1=some r'∧e'=⟨26,2,2,[],[]⟩) ?_ ?_
  ·refine go ?_
   refine lp (fun i e'=>e'=⟨26,2,2,[(0,.pl (.one (.v (.list false 1 (List.map (rK .i64) a))))),(1,.pl (.one (.v (.list false 1 (List.map (rK .i64) b))))),(5,.pl (.one (.v (.sc (.int .i64 i)))))],[]⟩) [0,1,5] [] 2 rfl ?_
   rintro i _ rfl y1'
   change Tl _ (laws_sameInts_l1 a b i) _ _; unfold laws_sameInts_l1
   refine sq ?_
   refine go ?_
   refine sp ?_ ?_
   ·refine go ?_
    refine sq ?_
    refine go ?_
    refine rq ?_
    refine go ?_; intro x v'
    refine go ?_; intro x_1 v'
    refine go ?_
    refine sp ?_ ?_
    ·exact gz
    ·refine go ?_
     exact bk [0,1,5] [] 2 rfl
   ·refine go ?_
    exact je [] [] 2 fun h=>⟨h,rfl⟩
  ·rintro e' ⟨h,rfl⟩; refine tl h ?_; unfold laws_sameInts_j1
   exact gz
end Go.TV.KFnRecords
