/- Walks. -/
import Derived.Test.YtmoglghkjfjalaaKFnBlendsE
import Derived.Test.YtmoglghkjfjalaaKFnBlendsW0
import Derived.Test.YtmoglghkjfjalaaKFnBlendsW1
import Derived.Test.YtmoglghkjfjalaaKFnBlendsW2
set_option linter.unusedVariables false
set_option linter.unusedSimpArgs false
set_option maxHeartbeats 8000000
set_option maxRecDepth 100000
namespace Go.TV.KFnBlends
attribute [local irreducible] wpV opsV Does thenV blockV RetL quV seqV Cy lpP cutP cutQ
open Go.Proofs.Try Go.TV.F
instance W_impl_AddVersion:∀ w parents lines,Wlk X (impl_AddVersion w parents lines) 25 [] [.agg [.list false 1 (List.map (rL false 1 (rK .i64)) w.Parents),.list false 4 (List.map (zA false) w.Bodies)],.one (.list false 1 (List.map (rK .i64) parents)),.one (.list false 1 (List.map rS lines))] (fun r'=>[.agg [.list true 1 (List.map (rL true 1 (rK .i64)) r'.1.Parents),.list true 4 (List.map (zA true) r'.1.Bodies)],.one (.sc (.int .i64 r'.2.1)),.one (.sc (.int .i64 r'.2.2))]) (fun r'=>[]):=fun w parents lines=>by
 refine ws f25 34 [.cell 6 33,.tmp 7,.tmp 8] (h2 t3 (h2 t30 (h2 t31 (h2 t33 (h2 R_Li64 (h2 zP (h2 R_i64 R_s))))))) ?_
 intro r'; unfold impl_AddVersion
 refine go ?_
 refine l1 ?_
 refine go ?_
 refine sq ?_
 refine go ?_; intro x12
 refine go ?_
 refine sp ?_ ?_
 ·exact gz
 ·refine go ?_
  refine sq ?_
  refine go ?_; intro x18
  refine go ?_
  refine sp ?_ ?_
  ·exact gz
  ·refine go ?_; intro x24
   refine go ?_
   refine l1 ?_
   refine go ?_
   refine sq ?_
   refine go ?_; intro x27
   refine go ?_
   refine sp ?_ ?_
   ·exact gz
   ·refine go ?_
    refine jr (fun e'=>e'=⟨34,4,5,[(6,.pl (.one (.ref 4 []))),(7,.pl (.one (.v (.sc (.int .i64 (w.Parents.length:Int)))))),(8,.pl (.one (.v (.sc (.int .i64 0)))))],[(4,.box true [.list true 1 (List.map (rL true 1 (rK .i64)) x27.2.Parents),.list true 4 (List.map (zA true) x27.2.Bodies)])]⟩) ?_ ?_
    ·refine t0 fun H'=>?_
     refine regAnyF [(2,32,.pl (.one (.v (.list false 1 (List.map (rL false 1 (rK .i64)) w.Parents))))),(3,33,.pl (.one (.v (.sc (.int .i64 (w.Parents.length:Int))))))] ?_
     refine (?_:anyF X ?o0 _ _ ?P0 _)
     have d0':anyF X ?o0 [0,1,2,3,4,5,6] [] ?P0 ⟨34,4,5,[(6,.pl (.one (.ref 4 []))),(7,.pl (.one (.v (.sc (.int .i64 (w.Parents.length:Int)))))),(8,.pl (.one (.v (.sc (.int .i64 0)))))],[(4,.box true [.list true 1 (List.map (rL true 1 (rK .i64)) x27.2.Parents),.list true 4 (List.map (zA true) x27.2.Bodies)])]⟩:=by
      refine fend (e2:=⟨34,4,5,[(6,.pl (.one (.ref 4 []))),(7,.pl (.one (.v (.sc (.int .i64 (w.Parents.length:Int)))))),(8,.pl (.one (.v (.sc (.int .i64 0)))))],[(4,.box true [.list true 1 (List.map (rL true 1 (rK .i64)) x27.2.Parents),.list true 4 (List.map (zA true) x27.2.Bodies)])]⟩) [] [] [] [] trivial (cpN (shd [6,7,8] [(4,4)] 5 rfl))
     have d1':anyF X ?o0 [0,1,2,3,4,5] [] ?P0 ⟨34,4,5,[(6,.pl (.one (.ref 4 []))),(7,.pl (.one (.v (.sc (.int .i64 (w.Parents.length:Int))))))],[(4,.box true [.list true 1 (List.map (rL true 1 (rK .i64)) x27.2.Parents),.list true 4 (List.map (zA true) x27.2.Bodies)])]⟩:=by
      refine fnode [] [.m 6 [] [0,1,2,3,4,5,6] []] [] [(6,false,[],[0,1,2,3,4,5,6])] ⟨?_,trivial⟩
      ·refine obMx ⟨34,4,5,[(6,.pl (.one (.ref 4 []))),(7,.pl (.one (.v (.sc (.int .i64 (w.Parents.length:Int))))))],[(4,.box true [.list true 1 (List.map (rL true 1 (rK .i64)) x27.2.Parents),.list true 4 (List.map (zA true) x27.2.Bodies)])]⟩ ?_
       refine ops H' ?_
       refine zD ⟨rfl,.inl ⟨rfl,?_⟩⟩
       exact zH [6,7,8] [(4,4)] 5 d0'
     have d2':anyF X ?o0 [0,1,4] [(2,32,.pl (.one (.v (.list false 1 (List.map (rL false 1 (rK .i64)) w.Parents))))),(3,33,.pl (.one (.v (.sc (.int .i64 (w.Parents.length:Int))))))] ?P0 ⟨34,4,6,[(6,.pl (.one (.ref 4 []))),(31,.pl (.one (.addr 5 [] 0 0 0)))],[(4,.box true [.list true 1 (List.map (rL true 1 (rK .i64)) x27.2.Parents),.list true 4 (List.map (zA true) x27.2.Bodies)]),(5,.box true [.list false 1 (List.map (rL false 1 (rK .i64)) w.Parents),.list false 4 (List.map (zA false) w.Bodies)])]⟩:=by
      refine fnode [2,3] [.q 2 32 (.pl (.one (.v (.list false 1 (List.map (rL false 1 (rK .i64)) w.Parents))))) [],.q 3 33 (.pl (.one (.v (.sc (.int .i64 (w.Parents.length:Int)))))) [2],.m 5 [2,3] [0,1,2,3,4,5] []] [(2,32),(3,33)] [(2,true,[],[]),(3,true,[2],[]),(5,false,[2,3],[0,1,2,3,4,5])] ⟨?_,?_,?_,trivial⟩
      ·refine obQx 0 ⟨34,4,6,[(6,.pl (.one (.ref 4 []))),(31,.pl (.one (.addr 5 [] 0 0 0)))],[(4,.box true [.list true 1 (List.map (rL true 1 (rK .i64)) x27.2.Parents),.list true 4 (List.map (zA true) x27.2.Bodies)]),(5,.box true [.list false 1 (List.map (rL false 1 (rK .i64)) w.Parents),.list false 4 (List.map (zA false) w.Bodies)])]⟩ ?_
       refine ops H' ?_
       refine zD ⟨rfl,shd [32,6,31] [(4,4),(5,5)] 6 rfl⟩
      ·refine obQx 1 ⟨34,4,6,[(32,.pl (.one (.v (.list false 1 (List.map (rL false 1 (rK .i64)) w.Parents))))),(6,.pl (.one (.ref 4 []))),(31,.pl (.one (.addr 5 [] 0 0 0)))],[(4,.box true [.list true 1 (List.map (rL true 1 (rK .i64)) x27.2.Parents),.list true 4 (List.map (zA true) x27.2.Bodies)]),(5,.box true [.list false 1 (List.map (rL false 1 (rK .i64)) w.Parents),.list false 4 (List.map (zA false) w.Bodies)])]⟩ ?_
       refine ops H' ?_
       refine zD ⟨rfl,shd [33,6,31] [(4,4),(5,5)] 6 rfl⟩
      ·refine obMx ⟨34,4,6,[(32,.pl (.one (.v (.list false 1 (List.map (rL false 1 (rK .i64)) w.Parents))))),(33,.pl (.one (.v (.sc (.int .i64 (w.Parents.length:Int)))))),(6,.pl (.one (.ref 4 []))),(31,.pl (.one (.addr 5 [] 0 0 0)))],[(4,.box true [.list true 1 (List.map (rL true 1 (rK .i64)) x27.2.Parents),.list true 4 (List.map (zA true) x27.2.Bodies)]),(5,.box true [.list false 1 (List.map (rL false 1 (rK .i64)) w.Parents),.list false 4 (List.map (zA false) w.Bodies)])]⟩ ?_
       refine ops H' ?_
       refine zD ⟨rfl,.inl ⟨rfl,?_⟩⟩
       exact zH [6,7] [(4,4)] 5 d1'
     have d3':anyF X ?o0 [0,1] [(2,32,.pl (.one (.v (.list false 1 (List.map (rL false 1 (rK .i64)) w.Parents))))),(3,33,.pl (.one (.v (.sc (.int .i64 (w.Parents.length:Int))))))] ?P0 ⟨34,4,7,[(6,.pl (.one (.ref 4 []))),(30,.pl (.agg [.ref 5 [(0,0,0)],.ref 5 [(0,0,1)]])),(31,.pl (.one (.addr 6 [] 0 0 0)))],[(4,.box true [.list true 1 (List.map (rL true 1 (rK .i64)) []),.list true 4 (List.map (zA true) [])]),(5,.box true [.list true 1 (List.map (rL true 1 (rK .i64)) x27.2.Parents),.list true 4 (List.map (zA true) x27.2.Bodies)]),(6,.box true [.list false 1 (List.map (rL false 1 (rK .i64)) w.Parents),.list false 4 (List.map (zA false) w.Bodies)])]⟩:=by
      refine fnode [2,3] [.q 2 32 (.pl (.one (.v (.list false 1 (List.map (rL false 1 (rK .i64)) w.Parents))))) [],.q 3 33 (.pl (.one (.v (.sc (.int .i64 (w.Parents.length:Int)))))) [2],.m 4 [] [0,1,4] [(2,32,.pl (.one (.v (.list false 1 (List.map (rL false 1 (rK .i64)) w.Parents))))),(3,33,.pl (.one (.v (.sc (.int .i64 (w.Parents.length:Int))))))]] [(2,32),(3,33)] [(2,true,[],[]),(3,true,[2],[]),(4,false,[],[0,1,4])] ⟨?_,?_,?_,trivial⟩
      ·refine obQx 0 ⟨34,4,7,[(6,.pl (.one (.ref 4 []))),(30,.pl (.agg [.ref 5 [(0,0,0)],.ref 5 [(0,0,1)]])),(31,.pl (.one (.addr 6 [] 0 0 0)))],[(4,.box true [.list true 1 (List.map (rL true 1 (rK .i64)) []),.list true 4 (List.map (zA true) [])]),(5,.box true [.list true 1 (List.map (rL true 1 (rK .i64)) x27.2.Parents),.list true 4 (List.map (zA true) x27.2.Bodies)]),(6,.box true [.list false 1 (List.map (rL false 1 (rK .i64)) w.Parents),.list false 4 (List.map (zA false) w.Bodies)])]⟩ ?_
       refine ops H' ?_
       refine zD ⟨rfl,shd [32,6,30,31] [(4,4),(5,5),(6,6)] 7 rfl⟩
      ·refine obQx 1 ⟨34,4,7,[(32,.pl (.one (.v (.list false 1 (List.map (rL false 1 (rK .i64)) w.Parents))))),(6,.pl (.one (.ref 4 []))),(30,.pl (.agg [.ref 5 [(0,0,0)],.ref 5 [(0,0,1)]])),(31,.pl (.one (.addr 6 [] 0 0 0)))],[(4,.box true [.list true 1 (List.map (rL true 1 (rK .i64)) []),.list true 4 (List.map (zA true) [])]),(5,.box true [.list true 1 (List.map (rL true 1 (rK .i64)) x27.2.Parents),.list true 4 (List.map (zA true) x27.2.Bodies)]),(6,.box true [.list false 1 (List.map (rL false 1 (rK .i64)) w.Parents),.list false 4 (List.map (zA false) w.Bodies)])]⟩ ?_
       refine ops H' ?_
       refine zD ⟨rfl,shd [33,6,30,31] [(4,4),(5,5),(6,6)] 7 rfl⟩
      ·refine obMx ⟨34,4,7,[(6,.pl (.one (.ref 4 []))),(30,.pl (.agg [.ref 5 [(0,0,0)],.ref 5 [(0,0,1)]])),(31,.pl (.one (.addr 6 [] 0 0 0)))],[(4,.box true [.list true 1 (List.map (rL true 1 (rK .i64)) []),.list true 4 (List.map (zA true) [])]),(5,.box true [.list true 1 (List.map (rL true 1 (rK .i64)) x27.2.Parents),.list true 4 (List.map (zA true) x27.2.Bodies)]),(6,.box true [.list false 1 (List.map (rL false 1 (rK .i64)) w.Parents),.list false 4 (List.map (zA false) w.Bodies)])]⟩ ?_
       refine ops H' ?_
       refine zD ⟨rfl,.inl ⟨rfl,?_⟩⟩
       exact zH [6,31] [(4,4),(6,5)] 6 d2'
     have d4':anyF X ?o0 [1] [(2,32,.pl (.one (.v (.list false 1 (List.map (rL false 1 (rK .i64)) w.Parents))))),(3,33,.pl (.one (.v (.sc (.int .i64 (w.Parents.length:Int))))))] ?P0 ⟨34,4,7,[(6,.pl (.one (.ref 4 []))),(10,.pl (.one (.ref 5 []))),(31,.pl (.one (.addr 6 [] 0 0 0)))],[(4,.box true [.list true 1 (List.map (rL true 1 (rK .i64)) []),.list true 4 (List.map (zA true) [])]),(5,.box true [.list true 1 (List.map (rL true 1 (rK .i64)) x27.2.Parents),.list true 4 (List.map (zA true) x27.2.Bodies)]),(6,.box true [.list false 1 (List.map (rL false 1 (rK .i64)) w.Parents),.list false 4 (List.map (zA false) w.Bodies)])]⟩:=by
      refine fnode [2,3] [.q 2 32 (.pl (.one (.v (.list false 1 (List.map (rL false 1 (rK .i64)) w.Parents))))) [],.q 3 33 (.pl (.one (.v (.sc (.int .i64 (w.Parents.length:Int)))))) [2],.m 0 [] [0,1] [(2,32,.pl (.one (.v (.list false 1 (List.map (rL false 1 (rK .i64)) w.Parents))))),(3,33,.pl (.one (.v (.sc (.int .i64 (w.Parents.length:Int))))))]] [(2,32),(3,33)] [(2,true,[],[]),(3,true,[2],[]),(0,false,[],[0,1])] ⟨?_,?_,?_,trivial⟩
      ·refine obQx 0 ⟨34,4,7,[(6,.pl (.one (.ref 4 []))),(10,.pl (.one (.ref 5 []))),(31,.pl (.one (.addr 6 [] 0 0 0)))],[(4,.box true [.list true 1 (List.map (rL true 1 (rK .i64)) []),.list true 4 (List.map (zA true) [])]),(5,.box true [.list true 1 (List.map (rL true 1 (rK .i64)) x27.2.Parents),.list true 4 (List.map (zA true) x27.2.Bodies)]),(6,.box true [.list false 1 (List.map (rL false 1 (rK .i64)) w.Parents),.list false 4 (List.map (zA false) w.Bodies)])]⟩ ?_
       refine ops H' ?_
       refine zD ⟨rfl,shd [32,6,10,31] [(4,4),(5,5),(6,6)] 7 rfl⟩
      ·refine obQx 1 ⟨34,4,7,[(32,.pl (.one (.v (.list false 1 (List.map (rL false 1 (rK .i64)) w.Parents))))),(6,.pl (.one (.ref 4 []))),(10,.pl (.one (.ref 5 []))),(31,.pl (.one (.addr 6 [] 0 0 0)))],[(4,.box true [.list true 1 (List.map (rL true 1 (rK .i64)) []),.list true 4 (List.map (zA true) [])]),(5,.box true [.list true 1 (List.map (rL true 1 (rK .i64)) x27.2.Parents),.list true 4 (List.map (zA true) x27.2.Bodies)]),(6,.box true [.list false 1 (List.map (rL false 1 (rK .i64)) w.Parents),.list false 4 (List.map (zA false) w.Bodies)])]⟩ ?_
       refine ops H' ?_
       refine zD ⟨rfl,shd [33,6,10,31] [(4,4),(5,5),(6,6)] 7 rfl⟩
      ·refine obMx ⟨34,4,7,[(6,.pl (.one (.ref 4 []))),(10,.pl (.one (.ref 5 []))),(31,.pl (.one (.addr 6 [] 0 0 0)))],[(4,.box true [.list true 1 (List.map (rL true 1 (rK .i64)) []),.list true 4 (List.map (zA true) [])]),(5,.box true [.list true 1 (List.map (rL true 1 (rK .i64)) x27.2.Parents),.list true 4 (List.map (zA true) x27.2.Bodies)]),(6,.box true [.list false 1 (List.map (rL false 1 (rK .i64)) w.Parents),.list false 4 (List.map (zA false) w.Bodies)])]⟩ ?_
       refine ops H' ?_
       refine zD ⟨rfl,.inl ⟨rfl,?_⟩⟩
       exact zH [6,30,31] [(4,4),(5,5),(6,6)] 7 d3'
     refine fpure H' 1 [1] [(2,32),(3,33)] ?_
     exact zH [6,10,31] [(5,4),(10,5),(4,6)] 7 d4'
    ·rintro e' rfl; refine cn ?_
     exact gz
instance W_impl_versionsCode:∀ w list_,Wlk X (impl_versionsCode w list_) 59 [] [.agg [.list false 1 (List.map (rL false 1 (rK .i64)) w.Parents),.list false 4 (List.map (zA false) w.Bodies)],.one (.list false 1 (List.map (rK .i64) list_))] (fun r'=>[.one (.sc (.int .i64 r'))]) (fun r'=>[]):=fun w list_=>by
 refine ws f59 13 [.tmp 4] (h2 t33 (h2 R_Li64 (h2 zP R_i64))) ?_
 intro r'; unfold impl_versionsCode
 refine go ?_
 refine sq ?_
 refine go ?_; intro x7
 refine go ?_
 refine sp ?_ ?_
 ·exact gz
 ·refine go ?_; intro x11
  refine go ?_
  refine sp ?_ ?_
  ·exact gz
  ·exact gz
instance W_impl_Weave_extract:∀ w v,Wlk X (impl_Weave_extract w v) 83 [] [.one (.box false [.list false 1 (List.map (rL false 1 (rK .i64)) w.Parents),.list false 4 (List.map (zA false) w.Bodies)]),.one (.sc (.int .i64 v))] (fun r'=>[.one (.list true 1 (List.map rS r'))]) (fun r'=>[]):=fun w v=>by
 refine ws f83 17 [.tmp 4] (h2 t30 (h2 t33 (h2 t105 (h2 t106 (h2 R_Li64 (h2 zP (h2 R_i64 (h2 R_s R_u64)))))))) ?_
 intro r'; unfold impl_Weave_extract
 refine go ?_
 refine l1 ?_
 refine go ?_; intro x11
 refine go ?_; intro x v'
 refine go ?_; intro x15
 refine go ?_; intro x16
 exact gz
instance W_impl_Extract:∀ w v,Wlk X (impl_Extract w v) 26 [] [.agg [.list false 1 (List.map (rL false 1 (rK .i64)) w.Parents),.list false 4 (List.map (zA false) w.Bodies)],.one (.sc (.int .i64 v))] (fun r'=>[.one (.list true 1 (List.map rS r'.1)),.one (.sc (.int .i64 r'.2))]) (fun r'=>[]):=fun w v=>by
 refine ws f26 16 [.tmp 4,.tmp 5] (h2 t3 (h2 t33 (h2 t43 (h2 R_Li64 (h2 zP (h2 R_i64 R_s)))))) ?_
 intro r'; unfold impl_Extract
 refine go ?_
 refine l1 ?_
 refine go ?_
 refine sq ?_
 refine go ?_; intro x10
 refine go ?_
 refine sp ?_ ?_
 ·refine go ?_
  refine l1 ?_
  exact gz
 ·refine go ?_; intro x15
  exact gz
instance W_laws_FnBlends:∀ code,Wlk X (laws_FnBlends code) 5 [] [.one (.list false 1 (List.map (rK .u8) code))] (fun r'=>[.one (.sc (.bool r'))]) (fun r'=>[]):=fun code=>by
 refine ws f5 96 [.tmp 2] (h2 t3 (h2 t31 (h2 t33 (h2 t36 (h2 t43 (h2 R_Li64 (h2 zP (h2 R_i64 (h2 R_s R_u8))))))))) ?_
 intro r'; unfold laws_FnBlends
 refine go ?_
 refine sq ?_
 refine go ?_; intro x16
 refine go ?_
 refine sp ?_ ?_
 ·exact gz
 ·refine go ?_; intro x19
  refine go ?_
  refine l1 ?_
  refine go ?_
  refine jn (fun e'=>∃ a b,laws_FnBlends_j1 x19 a b=some r'∧e'=⟨96,1,2,[(3,.pl (.one (.ref 1 []))),(4,.pl (.one (.v (.sc (.int .i64 a))))),(5,.pl (.one (.v (.sc (.int .i64 b)))))],[(1,.box true [.list true 1 (List.map (rL true 1 (rK .i64)) x19.1.Parents),.list true 4 (List.map (zA true) x19.1.Bodies)])]⟩) ?_ ?_
  ·refine go ?_
   refine sp ?_ ?_
   ·refine go ?_
    exact je [3,4,5] [(6,1)] 2 fun h=>⟨_,_,h,rfl⟩
   ·refine go ?_
    exact je [3,4,5] [(6,1)] 2 fun h=>⟨_,_,h,rfl⟩
  ·rintro e' ⟨a,b,h,rfl⟩; refine tl h ?_; unfold laws_FnBlends_j1
   refine go ?_
   refine jn (fun e'=>∃ list_,laws_FnBlends_j2 x19 a b list_=some r'∧e'=⟨96,1,3,[(3,.pl (.one (.ref 1 []))),(4,.pl (.one (.v (.sc (.int .i64 a))))),(5,.pl (.one (.v (.sc (.int .i64 b))))),(6,.pl (.one (.ref 2 [])))],[(1,.box true [.list true 1 (List.map (rL true 1 (rK .i64)) x19.1.Parents),.list true 4 (List.map (zA true) x19.1.Bodies)]),(2,.list true 1 (List.map (rK .i64) list_))]⟩) ?_ ?_
   ·refine go ?_
    refine sp ?_ ?_
    ·refine go ?_
     exact je [3,4,5,6] [(1,1),(3,2)] 3 fun h=>⟨_,h,rfl⟩
    ·refine go ?_
     exact je [3,4,5,6] [(1,1),(2,2)] 3 fun h=>⟨_,h,rfl⟩
   ·rintro e' ⟨list_,h,rfl⟩; refine tl h ?_; unfold laws_FnBlends_j2
    refine go ?_; intro x39
    refine go ?_; intro x46
    refine go ?_
    refine sq ?_
    refine go ?_
    refine sp ?_ ?_
    ·exact gz
    ·refine go ?_
     refine sq ?_
     refine go ?_
     refine gc 5 (fun b_1 e'=>e'=⟨96,1,4,[(3,.pl (.one (.ref 1 []))),(6,.pl (.one (.ref 2 []))),(7,.pl (.one (.ref 3 []))),(59,.pl (.one (.v (.sc (.bool b_1)))))],[(1,.box true [.list true 1 (List.map (rL true 1 (rK .i64)) x19.1.Parents),.list true 4 (List.map (zA true) x19.1.Bodies)]),(2,.list true 1 (List.map (rK .i64) list_)),(3,.list true 1 (List.map rS x39.1))]⟩) ?_ ?_
     ·intro p
      refine opsV_spR ?_ ?_
      ·refine go ?_
       exact ge [3,6,7,59] [(1,1),(2,2),(3,3)] 4 rfl
      ·refine go ?_; intro x57
       refine go ?_
       exact ge [3,6,7,59] [(1,1),(2,2),(3,3)] 4 rfl
     ·rintro b_1 _ rfl
      refine go ?_
      refine sp ?_ ?_
      ·exact gz
      ·refine go ?_; intro x64
       refine go ?_
       refine l1 ?_
       refine go ?_
       refine sq ?_
       refine go ?_
       refine sp ?_ ?_
       ·exact gz
       ·refine go ?_; intro x73
        refine go ?_
        refine gc 3 (fun b_2 e'=>e'=⟨96,1,5,[(3,.pl (.one (.ref 1 []))),(7,.pl (.one (.ref 2 []))),(10,.pl (.one (.ref 3 []))),(13,.pl (.one (.ref 4 []))),(81,.pl (.one (.v (.sc (.bool b_2)))))],[(1,.box true [.list true 1 (List.map (rL true 1 (rK .i64)) x19.1.Parents),.list true 4 (List.map (zA true) x19.1.Bodies)]),(2,.list true 1 (List.map rS x39.1)),(3,.box true [.list true 1 (List.map (rL true 1 (rK .i64)) x64.1.Parents),.list true 4 (List.map (zA true) x64.1.Bodies)]),(4,.list true 1 (List.map rS x73.1))]⟩) ?_ ?_
        ·intro p
         refine opsV_spL ?_ ?_
         ·refine go ?_
          exact ge [3,7,10,13,81] [(1,1),(3,2),(8,3),(9,4)] 5 rfl
         ·refine go ?_
          exact ge [3,7,10,13,81] [(1,1),(3,2),(8,3),(9,4)] 5 rfl
        ·rintro b_2 _ rfl
         refine go ?_
         refine gc 4 (fun b_3 e'=>e'=⟨96,1,3,[(3,.pl (.one (.ref 1 []))),(10,.pl (.one (.ref 2 []))),(86,.pl (.one (.v (.sc (.bool b_3)))))],[(1,.box true [.list true 1 (List.map (rL true 1 (rK .i64)) x19.1.Parents),.list true 4 (List.map (zA true) x19.1.Bodies)]),(2,.box true [.list true 1 (List.map (rL true 1 (rK .i64)) x64.1.Parents),.list true 4 (List.map (zA true) x64.1.Bodies)])]⟩) ?_ ?_
         ·intro p
          refine opsV_spL ?_ ?_
          ·refine go ?_; intro x85
           refine go ?_
           exact ge [3,10,86] [(1,1),(3,2)] 3 rfl
          ·refine go ?_
           exact ge [3,10,86] [(1,1),(3,2)] 3 rfl
         ·rintro b_3 _ rfl
          refine go ?_
          refine gc 8 (fun b_4 e'=>e'=⟨96,1,1,[(95,.pl (.one (.v (.sc (.bool b_4)))))],[]⟩) ?_ ?_
          ·intro p
           refine opsV_spL ?_ ?_
           ·refine go ?_
            exact ge [95] [] 1 rfl
           ·refine go ?_
            exact ge [95] [] 1 rfl
          ·rintro b_4 _ rfl
           exact gz
end Go.TV.KFnBlends
