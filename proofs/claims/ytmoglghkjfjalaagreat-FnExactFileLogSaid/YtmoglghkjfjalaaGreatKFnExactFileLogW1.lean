/- Walks. -/
import Derived.Test.YtmoglghkjfjalaaGreatKFnExactFileLogE
import Derived.Test.YtmoglghkjfjalaaGreatKFnExactFileLogW0
set_option linter.unusedVariables false
set_option linter.unusedSimpArgs false
set_option maxHeartbeats 8000000
set_option maxRecDepth 100000
namespace Go.TV.KFnExactFileLog
attribute [local irreducible] anyV wpV opsV Does thenV blockV RetL quV seqV
open Go.Proofs.Tryz Go.TV.F
theorem W_spec_l06Places (w:T_impl_Weave) (in_:List Bool) (r':(List Int)) (h0':spec_l06Places w in_=some r'):Fn X 148 [.agg [.list false 1 (List.map (rL false 1 (rK .i64)) w.Parents),.list false 4 (List.map (zF false) w.Bodies)],.one (.list false 1 (List.map rB in_))] [.one (.list true 1 (List.map (rK .i64) r'))] []:=by
 have H':=And.intro t3 (And.intro t34 (And.intro t36 (And.intro t40 (And.intro t73 (And.intro qT (And.intro qL (And.intro R_b (qK))))))))
 unfold spec_l06Places at h0'
 refine Fn.start (fn:=f148) (N:=27) (res:=[.tmp 4]) rfl rfl rfl rfl rfl (by simp) ?_
 refine zU H' ?_
 refine zB ?_
 refine zA ?_
 refine ops H' ?_
 refine zE ?_
 refine zB ?_
 refine zA ?_
 refine ops H' ?_
 refine zE ?_
 refine zV (fun e'=>∃ out_,spec_l06Places_j1 out_=some r'∧e'=⟨27,3,4,[(5,.pl (.one (.ref 3 [])))],[(3,.list true 1 (List.map (rK .i64) out_))]⟩) ?_ ?_
 ·refine zB ?_
  refine zA ?_
  refine ops H' ?_
  refine zE ?_
  obtain ⟨p,hl',h0'⟩:=zbi h0'
  refine zI ?_
  refine zS (fun s' e'=>∃ i out__1,s'=(i,out__1)∧e'=⟨27,3,5,[(1,.pl (.one (.v (.list false 1 (List.map rB in_))))),(2,.pl (.one (.ref 3 []))),(5,.pl (.one (.ref 4 []))),(6,.pl (.one (.v (.sc (.int .i64 i)))))],[(3,.box true [.list false 1 (List.map (rL false 1 (rK .i64)) w.Parents),.list false 4 (List.map (zF false) w.Bodies)]),(4,.list true 1 (List.map (rK .i64) out__1))]⟩) hl' (shd [1,2,5,6] [(3,3),(5,4)] 5 ⟨_,_,rfl,rfl⟩) ?_
  rintro s' y1' e' h1' ⟨i,out__1,rfl,rfl⟩
  replace h1':jO w in_ i out__1=some y1':=h1'
  unfold jO at h1'
  refine zB ?_
  refine zB ?_
  refine zA ?_
  refine ops H' ?_
  refine zE ?_
  refine zH (fun hc'=>?_) (fun hc'=>?_)
  ·replace h1':=(ifT hc').symm.trans h1'
   refine zM ?_
   refine zB ?_
   refine zI ?_
   refine zB ?_
   refine zA ?_
   obtain ⟨x,hv',h1'⟩:=zbi h1'
   have H':=And.intro (zP hv') H'
   refine ops H' ?_
   obtain ⟨x21,hy',h1'⟩:=zbi h1'
   refine zR H' (fun _=>[]) (W_spec_l06Live _ _ _ hy') ?_
   refine zE ?_
   refine zH (fun hc'=>?_) (fun hc'=>?_)
   ·replace h1':=(ifT hc').symm.trans h1'
    refine zA ?_
    obtain ⟨l,hv',h1'⟩:=zbi h1'
    have H':=And.intro (app1_f hv') H'
    refine ops H' ?_
    refine zE ?_
    refine zA ?_
    refine ops H' ?_
    refine zE ?_
    obtain rfl:=zso h1'
    exact shd [1,2,5,6] [(3,3),(4,4)] 5 ⟨_,rfl,_,_,rfl,rfl⟩
   ·replace h1':=(ifF hc').symm.trans h1'
    refine zM ?_
    refine zA ?_
    refine ops H' ?_
    refine zE ?_
    obtain rfl:=zso h1'
    exact shd [1,2,5,6] [(3,3),(4,4)] 5 ⟨_,rfl,_,_,rfl,rfl⟩
  ·replace h1':=(ifF hc').symm.trans h1'
   refine qJ ?_
   obtain rfl:=zso h1'
   refine ⟨_,rfl,fun hr'=>?_⟩
   subst hr'
   exact shd [5] [(4,3)] 4 ⟨_,h0',rfl⟩
 ·rintro e' ⟨out_,h0',rfl⟩
  unfold spec_l06Places_j1 at h0'
  refine zB ?_
  refine zA ?_
  refine ops H' ?_
  refine zE ?_
  refine zN ?_
  obtain rfl:=zso h0'
  exact zO H' rfl rfl
theorem W_spec_WeaveOk (w:T_impl_Weave) (r':Bool) (h0':spec_WeaveOk w=some r'):Fn X 53 [.agg [.list false 1 (List.map (rL false 1 (rK .i64)) w.Parents),.list false 4 (List.map (zF false) w.Bodies)]] [.one (.sc (.bool r'))] []:=by
 have H':=And.intro t3 (And.intro t9 (And.intro t33 (And.intro t34 (And.intro t36 (And.intro t40 (And.intro t73 (And.intro t201 (And.intro t202 (And.intro R_Lb (And.intro qT (And.intro qL (And.intro R_b (qK)))))))))))))
 unfold spec_WeaveOk at h0'
 refine Fn.start (fn:=f53) (N:=131) (res:=[.tmp 2]) rfl rfl rfl rfl rfl (by simp) ?_
 refine zU H' ?_
 refine zB ?_
 refine zA ?_
 refine ops H' ?_
 refine zE ?_
 refine zB ?_
 refine zB ?_
 refine zA ?_
 refine ops H' ?_
 obtain ⟨x13,hy',h0'⟩:=zbi h0'
 refine zR H' (fun _=>[]) (W_spec_GraphOk _ _ hy') ?_
 refine ops H' ?_
 obtain ⟨b,gh0',h0'⟩:=zbi h0'
 refine qC 5 (fun e'=>e'=⟨131,2,3,[(1,.pl (.one (.ref 2 []))),(20,.pl (.one (.v (.sc (.bool b)))))],[(2,.box true [.list false 1 (List.map (rL false 1 (rK .i64)) w.Parents),.list false 4 (List.map (zF false) w.Bodies)])]⟩) ?_ ?_
 ·simp only [List.take_succ_cons,List.take_zero]
  refine qE (fun hc'=>?_) (fun hc'=>?_)
  ·replace gh0':=(ifF hc').symm.trans gh0'
   refine ops H' ?_
   obtain rfl:=zso gh0'
   refine zG ?_
   exact ⟨rfl,shd [1,20] [(2,2)] 3 rfl⟩
  ·replace gh0':=(ifT hc').symm.trans gh0'
   refine ops H' ?_
   obtain rfl:=zso gh0'
   refine zG ?_
   exact ⟨rfl,shd [1,20] [(2,2)] 3 rfl⟩
 ·rintro e' rfl
  simp only [List.drop_succ_cons,List.drop_zero]
  refine zE ?_
  refine zH (fun hc'=>?_) (fun hc'=>?_)
  ·replace h0':=(ifT hc').symm.trans h0'
   refine zB ?_
   refine zA ?_
   refine ops H' ?_
   refine zE ?_
   refine zN ?_
   obtain rfl:=zso h0'
   exact zO H' rfl rfl
  ·replace h0':=(ifF hc').symm.trans h0'
   refine zM ?_
   refine zB ?_
   refine zA ?_
   refine ops H' ?_
   refine zE ?_
   refine zB ?_
   refine zA ?_
   obtain ⟨x25,hv',h0'⟩:=zbi h0'
   have H':=And.intro (mkl_f hv') H'
   refine ops H' ?_
   refine zE ?_
   refine zB ?_
   refine zA ?_
   refine ops H' ?_
   refine zE ?_
   refine zV (fun e'=>∃ proper,spec_WeaveOk_j1 w x25 proper=some r'∧e'=⟨131,2,5,[(1,.pl (.one (.ref 2 []))),(3,.pl (.one (.v (.sc (.int .i64 (w.Parents.length:Int)))))),(4,.pl (.one (.ref 3 []))),(5,.pl (.one (.ref 4 [])))],[(2,.box true [.list false 1 (List.map (rL false 1 (rK .i64)) w.Parents),.list false 4 (List.map (zF false) w.Bodies)]),(3,.list true 1 (List.map (rK .i64) x25)),(4,.list true 1 (List.map (rL true 1 rB) proper))]⟩) ?_ ?_
   ·refine zB ?_
    refine zA ?_
    refine ops H' ?_
    refine zE ?_
    obtain ⟨p_3,hl',h0'⟩:=zbi h0'
    refine zI ?_
    refine zS (fun s' e'=>∃ v_1 proper_1,s'=(v_1,proper_1)∧e'=⟨131,2,5,[(1,.pl (.one (.ref 2 []))),(3,.pl (.one (.v (.sc (.int .i64 (w.Parents.length:Int)))))),(4,.pl (.one (.ref 3 []))),(5,.pl (.one (.ref 4 []))),(6,.pl (.one (.v (.sc (.int .i64 v_1)))))],[(2,.box true [.list false 1 (List.map (rL false 1 (rK .i64)) w.Parents),.list false 4 (List.map (zF false) w.Bodies)]),(3,.list true 1 (List.map (rK .i64) x25)),(4,.list true 1 (List.map (rL true 1 rB) proper_1))]⟩) hl' (shd [1,3,4,5,6] [(2,2),(3,3),(4,4)] 5 ⟨_,_,rfl,rfl⟩) ?_
    rintro s' y1' e' h1' ⟨v_1,proper_1,rfl,rfl⟩
    replace h1':spec_WeaveOk_l4 w v_1 proper_1=some y1':=h1'
    unfold spec_WeaveOk_l4 at h1'
    refine zB ?_
    refine zB ?_
    refine zA ?_
    refine ops H' ?_
    refine zE ?_
    refine zH (fun hc'=>?_) (fun hc'=>?_)
    ·replace h1':=(ifT hc').symm.trans h1'
     refine zM ?_
     refine zB ?_
     refine zI ?_
     obtain ⟨x_6,hv',h1'⟩:=zbi h1'
     have H':=And.intro (zP hv') H'
     obtain ⟨x40,hy_x40,h1'⟩:=zbi h1'
     obtain ⟨l,hv',h1'⟩:=zbi h1'
     have H':=And.intro (app1_f hv') H'
     refine wpV_J (fun e'=>e'=⟨131,2,5,[(1,.pl (.one (.ref 2 []))),(3,.pl (.one (.v (.sc (.int .i64 (w.Parents.length:Int)))))),(4,.pl (.one (.ref 3 []))),(5,.pl (.one (.ref 4 []))),(6,.pl (.one (.v (.sc (.int .i64 v_1)))))],[(2,.box true [.list false 1 (List.map (rL false 1 (rK .i64)) w.Parents),.list false 4 (List.map (zF false) w.Bodies)]),(3,.list true 1 (List.map (rK .i64) x25)),(4,.list true 1 (List.map (rL true 1 rB) l))]⟩) ?_ ?_
     ·refine regAnyF [(2,34,.pl (.one (.v (.list false 1 (List.map (rL false 1 (rK .i64)) w.Parents))))),(4,36,.pl (.one (.v (.list false 1 (List.map (rL false 1 (rK .i64)) w.Parents))))),(6,38,.pl (.one (.ba [.list false 1 (List.map (rK .i64) x_6)]))),(7,39,.pl (.one (.v (.list false 1 (List.map (rK .i64) x_6)))))] ?_
      refine (?_:anyF X ?o0 _ _ ?P0 _)
      have d0':anyF X ?o0 [0,1,2,3,4,5,6,7,8,9,10,11] [] ?P0 ⟨131,2,5,[(1,.pl (.one (.ref 2 []))),(3,.pl (.one (.v (.sc (.int .i64 (w.Parents.length:Int)))))),(4,.pl (.one (.ref 3 []))),(5,.pl (.one (.ref 4 []))),(6,.pl (.one (.v (.sc (.int .i64 v_1)))))],[(2,.box true [.list false 1 (List.map (rL false 1 (rK .i64)) w.Parents),.list false 4 (List.map (zF false) w.Bodies)]),(3,.list true 1 (List.map (rK .i64) x25)),(4,.list true 1 (List.map (rL true 1 rB) l))]⟩:=by
       refine fend (e2:=⟨131,2,5,[(1,.pl (.one (.ref 2 []))),(3,.pl (.one (.v (.sc (.int .i64 (w.Parents.length:Int)))))),(4,.pl (.one (.ref 3 []))),(5,.pl (.one (.ref 4 []))),(6,.pl (.one (.v (.sc (.int .i64 v_1)))))],[(2,.box true [.list false 1 (List.map (rL false 1 (rK .i64)) w.Parents),.list false 4 (List.map (zF false) w.Bodies)]),(3,.list true 1 (List.map (rK .i64) x25)),(4,.list true 1 (List.map (rL true 1 rB) l))]⟩) [] [] [] [] trivial ⟨rfl,shd [1,3,4,5,6] [(2,2),(3,3),(4,4)] 5 rfl⟩
      have d1':anyF X ?o0 [0,1,2,3,4,5,6,7,8,9,10] [] ?P0 ⟨131,2,5,[(1,.pl (.one (.ref 2 []))),(3,.pl (.one (.v (.sc (.int .i64 (w.Parents.length:Int)))))),(4,.pl (.one (.ref 3 []))),(6,.pl (.one (.v (.sc (.int .i64 v_1))))),(42,.pl (.one (.ref 4 [])))],[(2,.box true [.list false 1 (List.map (rL false 1 (rK .i64)) w.Parents),.list false 4 (List.map (zF false) w.Bodies)]),(3,.list true 1 (List.map (rK .i64) x25)),(4,.list true 1 (List.map (rL true 1 rB) l))]⟩:=by
       refine fnode [] [.m 11 [] [0,1,2,3,4,5,6,7,8,9,10,11] []] [] [(11,false,[],[0,1,2,3,4,5,6,7,8,9,10,11])] ⟨?_,trivial⟩
       ·refine obMx ⟨131,2,5,[(1,.pl (.one (.ref 2 []))),(3,.pl (.one (.v (.sc (.int .i64 (w.Parents.length:Int)))))),(4,.pl (.one (.ref 3 []))),(6,.pl (.one (.v (.sc (.int .i64 v_1))))),(42,.pl (.one (.ref 4 [])))],[(2,.box true [.list false 1 (List.map (rL false 1 (rK .i64)) w.Parents),.list false 4 (List.map (zF false) w.Bodies)]),(3,.list true 1 (List.map (rK .i64) x25)),(4,.list true 1 (List.map (rL true 1 rB) l))]⟩ ?_
        refine ops H' ?_
        refine zG ⟨rfl,.inl ⟨rfl,?_⟩⟩
        exact qN [1,3,4,5,6] [(2,2),(3,3),(4,4)] 5 d0'
      have d2':anyF X ?o0 [0,1,2,3,4,5,6,7,8,9] [] ?P0 ⟨131,2,6,[(1,.pl (.one (.ref 2 []))),(3,.pl (.one (.v (.sc (.int .i64 (w.Parents.length:Int)))))),(4,.pl (.one (.ref 3 []))),(6,.pl (.one (.v (.sc (.int .i64 v_1))))),(32,.pl (.one (.ref 4 []))),(41,.pl (.one (.ref 5 [])))],[(2,.box true [.list false 1 (List.map (rL false 1 (rK .i64)) w.Parents),.list false 4 (List.map (zF false) w.Bodies)]),(3,.list true 1 (List.map (rK .i64) x25)),(4,.list true 1 (List.map (rL true 1 rB) proper_1)),(5,.list true 1 (List.map (rL true 1 rB) [x40]))]⟩:=by
       refine fnode [] [.m 10 [] [0,1,2,3,4,5,6,7,8,9,10] []] [] [(10,false,[],[0,1,2,3,4,5,6,7,8,9,10])] ⟨?_,trivial⟩
       ·refine obMx ⟨131,2,6,[(1,.pl (.one (.ref 2 []))),(3,.pl (.one (.v (.sc (.int .i64 (w.Parents.length:Int)))))),(4,.pl (.one (.ref 3 []))),(6,.pl (.one (.v (.sc (.int .i64 v_1))))),(32,.pl (.one (.ref 4 []))),(41,.pl (.one (.ref 5 [])))],[(2,.box true [.list false 1 (List.map (rL false 1 (rK .i64)) w.Parents),.list false 4 (List.map (zF false) w.Bodies)]),(3,.list true 1 (List.map (rK .i64) x25)),(4,.list true 1 (List.map (rL true 1 rB) proper_1)),(5,.list true 1 (List.map (rL true 1 rB) [x40]))]⟩ ?_
        refine ops H' ?_
        refine zG ⟨rfl,.inl ⟨rfl,?_⟩⟩
        exact qN [1,3,4,6,42] [(2,2),(3,3),(4,4)] 5 d1'
      have d3':anyF X ?o0 [0,1,2,3,4,5,6,7,8] [] ?P0 ⟨131,2,6,[(1,.pl (.one (.ref 2 []))),(3,.pl (.one (.v (.sc (.int .i64 (w.Parents.length:Int)))))),(4,.pl (.one (.ref 3 []))),(6,.pl (.one (.v (.sc (.int .i64 v_1))))),(32,.pl (.one (.ref 4 []))),(40,.pl (.one (.ref 5 [])))],[(2,.box true [.list false 1 (List.map (rL false 1 (rK .i64)) w.Parents),.list false 4 (List.map (zF false) w.Bodies)]),(3,.list true 1 (List.map (rK .i64) x25)),(4,.list true 1 (List.map (rL true 1 rB) proper_1)),(5,.list true 1 (List.map rB x40))]⟩:=by
       refine fnode [] [.m 9 [] [0,1,2,3,4,5,6,7,8,9] []] [] [(9,false,[],[0,1,2,3,4,5,6,7,8,9])] ⟨?_,trivial⟩
       ·refine obMx ⟨131,2,6,[(1,.pl (.one (.ref 2 []))),(3,.pl (.one (.v (.sc (.int .i64 (w.Parents.length:Int)))))),(4,.pl (.one (.ref 3 []))),(6,.pl (.one (.v (.sc (.int .i64 v_1))))),(32,.pl (.one (.ref 4 []))),(40,.pl (.one (.ref 5 [])))],[(2,.box true [.list false 1 (List.map (rL false 1 (rK .i64)) w.Parents),.list false 4 (List.map (zF false) w.Bodies)]),(3,.list true 1 (List.map (rK .i64) x25)),(4,.list true 1 (List.map (rL true 1 rB) proper_1)),(5,.list true 1 (List.map rB x40))]⟩ ?_
        refine ops H' ?_
        refine zG ⟨rfl,.inl ⟨rfl,?_⟩⟩
        exact qN [1,3,4,6,32,41] [(2,2),(3,3),(4,4),(6,5)] 6 d2'
      have d4':anyF X ?o0 [0,1,3,5] [(2,34,.pl (.one (.v (.list false 1 (List.map (rL false 1 (rK .i64)) w.Parents))))),(4,36,.pl (.one (.v (.list false 1 (List.map (rL false 1 (rK .i64)) w.Parents))))),(6,38,.pl (.one (.ba [.list false 1 (List.map (rK .i64) x_6)]))),(7,39,.pl (.one (.v (.list false 1 (List.map (rK .i64) x_6)))))] ?P0 ⟨131,2,5,[(1,.pl (.one (.ref 2 []))),(3,.pl (.one (.v (.sc (.int .i64 (w.Parents.length:Int)))))),(4,.pl (.one (.ref 3 []))),(6,.pl (.one (.v (.sc (.int .i64 v_1))))),(32,.pl (.one (.ref 4 []))),(33,.pl (.one (.addr 2 [] 0 0 0))),(35,.pl (.one (.addr 2 [] 0 0 0))),(37,.pl (.one (.v (.sc (.int .i64 v_1)))))],[(2,.box true [.list false 1 (List.map (rL false 1 (rK .i64)) w.Parents),.list false 4 (List.map (zF false) w.Bodies)]),(3,.list true 1 (List.map (rK .i64) x25)),(4,.list true 1 (List.map (rL true 1 rB) proper_1))]⟩:=by
       refine fnode [2,4,6,7] [.q 2 34 (.pl (.one (.v (.list false 1 (List.map (rL false 1 (rK .i64)) w.Parents))))) [],.q 4 36 (.pl (.one (.v (.list false 1 (List.map (rL false 1 (rK .i64)) w.Parents))))) [],.q 6 38 (.pl (.one (.ba [.list false 1 (List.map (rK .i64) x_6)]))) [4],.q 7 39 (.pl (.one (.v (.list false 1 (List.map (rK .i64) x_6))))) [6],.m 8 [2,7,6,4] [0,1,2,3,4,5,6,7,8] []] [(2,34),(4,36),(6,38),(7,39)] [(2,true,[],[]),(4,true,[],[]),(6,true,[4],[]),(7,true,[6],[]),(8,false,[2,7,6,4],[0,1,2,3,4,5,6,7,8])] ⟨?_,?_,?_,?_,?_,trivial⟩
       ·refine qB 0 ⟨131,2,5,[(1,.pl (.one (.ref 2 []))),(3,.pl (.one (.v (.sc (.int .i64 (w.Parents.length:Int)))))),(4,.pl (.one (.ref 3 []))),(6,.pl (.one (.v (.sc (.int .i64 v_1))))),(32,.pl (.one (.ref 4 []))),(33,.pl (.one (.addr 2 [] 0 0 0))),(35,.pl (.one (.addr 2 [] 0 0 0))),(37,.pl (.one (.v (.sc (.int .i64 v_1)))))],[(2,.box true [.list false 1 (List.map (rL false 1 (rK .i64)) w.Parents),.list false 4 (List.map (zF false) w.Bodies)]),(3,.list true 1 (List.map (rK .i64) x25)),(4,.list true 1 (List.map (rL true 1 rB) proper_1))]⟩ ?_
        refine ops H' ?_
        refine zG ⟨rfl,shd [34,1,3,4,6,32,33,35,37] [(2,2),(3,3),(4,4)] 5 rfl⟩
       ·refine qB 1 ⟨131,2,5,[(1,.pl (.one (.ref 2 []))),(3,.pl (.one (.v (.sc (.int .i64 (w.Parents.length:Int)))))),(4,.pl (.one (.ref 3 []))),(6,.pl (.one (.v (.sc (.int .i64 v_1))))),(32,.pl (.one (.ref 4 []))),(33,.pl (.one (.addr 2 [] 0 0 0))),(35,.pl (.one (.addr 2 [] 0 0 0))),(37,.pl (.one (.v (.sc (.int .i64 v_1)))))],[(2,.box true [.list false 1 (List.map (rL false 1 (rK .i64)) w.Parents),.list false 4 (List.map (zF false) w.Bodies)]),(3,.list true 1 (List.map (rK .i64) x25)),(4,.list true 1 (List.map (rL true 1 rB) proper_1))]⟩ ?_
        refine ops H' ?_
        refine zG ⟨rfl,shd [36,1,3,4,6,32,33,35,37] [(2,2),(3,3),(4,4)] 5 rfl⟩
       ·refine qB 2 ⟨131,2,5,[(36,.pl (.one (.v (.list false 1 (List.map (rL false 1 (rK .i64)) w.Parents))))),(1,.pl (.one (.ref 2 []))),(3,.pl (.one (.v (.sc (.int .i64 (w.Parents.length:Int)))))),(4,.pl (.one (.ref 3 []))),(6,.pl (.one (.v (.sc (.int .i64 v_1))))),(32,.pl (.one (.ref 4 []))),(33,.pl (.one (.addr 2 [] 0 0 0))),(35,.pl (.one (.addr 2 [] 0 0 0))),(37,.pl (.one (.v (.sc (.int .i64 v_1)))))],[(2,.box true [.list false 1 (List.map (rL false 1 (rK .i64)) w.Parents),.list false 4 (List.map (zF false) w.Bodies)]),(3,.list true 1 (List.map (rK .i64) x25)),(4,.list true 1 (List.map (rL true 1 rB) proper_1))]⟩ ?_
        refine ops H' ?_
        refine zG ⟨rfl,shd [38,1,3,4,6,32,33,35,37] [(2,2),(3,3),(4,4)] 5 rfl⟩
       ·refine qB 3 ⟨131,2,5,[(38,.pl (.one (.ba [.list false 1 (List.map (rK .i64) x_6)]))),(1,.pl (.one (.ref 2 []))),(3,.pl (.one (.v (.sc (.int .i64 (w.Parents.length:Int)))))),(4,.pl (.one (.ref 3 []))),(6,.pl (.one (.v (.sc (.int .i64 v_1))))),(32,.pl (.one (.ref 4 []))),(33,.pl (.one (.addr 2 [] 0 0 0))),(35,.pl (.one (.addr 2 [] 0 0 0))),(37,.pl (.one (.v (.sc (.int .i64 v_1)))))],[(2,.box true [.list false 1 (List.map (rL false 1 (rK .i64)) w.Parents),.list false 4 (List.map (zF false) w.Bodies)]),(3,.list true 1 (List.map (rK .i64) x25)),(4,.list true 1 (List.map (rL true 1 rB) proper_1))]⟩ ?_
        refine ops H' ?_
        refine zG ⟨rfl,shd [39,1,3,4,6,32,33,35,37] [(2,2),(3,3),(4,4)] 5 rfl⟩
       ·refine obMx ⟨131,2,5,[(34,.pl (.one (.v (.list false 1 (List.map (rL false 1 (rK .i64)) w.Parents))))),(36,.pl (.one (.v (.list false 1 (List.map (rL false 1 (rK .i64)) w.Parents))))),(38,.pl (.one (.ba [.list false 1 (List.map (rK .i64) x_6)]))),(39,.pl (.one (.v (.list false 1 (List.map (rK .i64) x_6))))),(1,.pl (.one (.ref 2 []))),(3,.pl (.one (.v (.sc (.int .i64 (w.Parents.length:Int)))))),(4,.pl (.one (.ref 3 []))),(6,.pl (.one (.v (.sc (.int .i64 v_1))))),(32,.pl (.one (.ref 4 []))),(33,.pl (.one (.addr 2 [] 0 0 0))),(35,.pl (.one (.addr 2 [] 0 0 0))),(37,.pl (.one (.v (.sc (.int .i64 v_1)))))],[(2,.box true [.list false 1 (List.map (rL false 1 (rK .i64)) w.Parents),.list false 4 (List.map (zF false) w.Bodies)]),(3,.list true 1 (List.map (rK .i64) x25)),(4,.list true 1 (List.map (rL true 1 rB) proper_1))]⟩ ?_
        refine zR H' (fun _=>[]) (W_spec_l05Set _ _ _ hy_x40) ?_
        refine zG ⟨rfl,.inl ⟨rfl,?_⟩⟩
        exact qN [1,3,4,6,32,40] [(2,2),(3,3),(4,4),(5,5)] 6 d3'
      refine fpure H' 0 [0] [(2,34),(4,36),(6,38),(7,39)] ?_
      refine fpure H' 1 [0,1] [(2,34),(4,36),(6,38),(7,39)] ?_
      refine fpure H' 3 [0,1,3] [(2,34),(4,36),(6,38),(7,39)] ?_
      refine fpure H' 5 [0,1,3,5] [(2,34),(4,36),(6,38),(7,39)] ?_
      exact qN [1,3,4,6,32,33,35,37] [(2,2),(3,3),(4,4)] 5 d4'
     ·rintro e' rfl
      refine contN ?_
      refine zA ?_
      refine ops H' ?_
      refine zE ?_
      obtain rfl:=zso h1'
      exact shd [1,3,4,5,6] [(2,2),(3,3),(4,4)] 5 ⟨_,rfl,_,_,rfl,rfl⟩
    ·replace h1':=(ifF hc').symm.trans h1'
     refine qJ ?_
     obtain rfl:=zso h1'
     refine ⟨_,rfl,fun hr'=>?_⟩
     subst hr'
     exact shd [1,3,4,5] [(2,2),(3,3),(4,4)] 5 ⟨_,h0',rfl⟩
   ·rintro e' ⟨proper,h0',rfl⟩
    unfold spec_WeaveOk_j1 at h0'
    refine zV (fun e'=>∃ born,spec_WeaveOk_j2 w born=some r'∧e'=⟨131,2,4,[(1,.pl (.one (.ref 2 []))),(3,.pl (.one (.v (.sc (.int .i64 (w.Parents.length:Int)))))),(4,.pl (.one (.ref 3 [])))],[(2,.box true [.list false 1 (List.map (rL false 1 (rK .i64)) w.Parents),.list false 4 (List.map (zF false) w.Bodies)]),(3,.list true 1 (List.map (rK .i64) born))]⟩) ?_ ?_
    ·refine zB ?_
     refine zA ?_
     refine ops H' ?_
     refine zE ?_
     obtain ⟨p_1,hl',h0'⟩:=zbi h0'
     refine zI ?_
     refine zS (fun s' e'=>∃ i born_1,s'=(i,born_1)∧e'=⟨131,2,5,[(1,.pl (.one (.ref 2 []))),(3,.pl (.one (.v (.sc (.int .i64 (w.Parents.length:Int)))))),(4,.pl (.one (.ref 3 []))),(5,.pl (.one (.ref 4 []))),(7,.pl (.one (.v (.sc (.int .i64 i)))))],[(2,.box true [.list false 1 (List.map (rL false 1 (rK .i64)) w.Parents),.list false 4 (List.map (zF false) w.Bodies)]),(3,.list true 1 (List.map (rK .i64) born_1)),(4,.list true 1 (List.map (rL true 1 rB) proper))]⟩) hl' (shd [1,3,4,5,7] [(2,2),(3,3),(4,4)] 5 ⟨_,_,rfl,rfl⟩) ?_
     rintro s' y1' e' h1' ⟨i,born_1,rfl,rfl⟩
     replace h1':jD w proper i born_1=some y1':=h1'
     unfold jD at h1'
     refine zB ?_
     refine zB ?_
     refine zA ?_
     refine ops H' ?_
     refine zE ?_
     refine zH (fun hc'=>?_) (fun hc'=>?_)
     ·replace h1':=(ifT hc').symm.trans h1'
      refine zM ?_
      refine zV (fun e'=>∃ born_2,spec_WeaveOk_j4 i born_2=some y1'∧e'=⟨131,2,5,[(1,.pl (.one (.ref 2 []))),(3,.pl (.one (.v (.sc (.int .i64 (w.Parents.length:Int)))))),(4,.pl (.one (.ref 3 []))),(5,.pl (.one (.ref 4 []))),(7,.pl (.one (.v (.sc (.int .i64 i)))))],[(2,.box true [.list false 1 (List.map (rL false 1 (rK .i64)) w.Parents),.list false 4 (List.map (zF false) w.Bodies)]),(3,.list true 1 (List.map (rK .i64) born_2)),(4,.list true 1 (List.map (rL true 1 rB) proper))]⟩) ?_ ?_
      ·refine zI ?_
       refine zB ?_
       refine zA ?_
       obtain ⟨x_1,hv',h1'⟩:=zbi h1'
       have H':=And.intro (zP hv') H'
       refine ops H' ?_
       refine zE ?_
       refine zB ?_
       refine zB ?_
       refine regQ ?_
       refine ops H' ?_
       obtain ⟨x57,hy',h1'⟩:=zbi h1'
       refine callGQ H' (W_spec_LineOk _ _ hy') ?_
       refine ops H' ?_
       obtain ⟨b_2,gh1',h1'⟩:=zbi h1'
       refine quV_cut 7 (fun e'=>e'=⟨131,2,6,[(1,.pl (.one (.ref 2 []))),(3,.pl (.one (.v (.sc (.int .i64 (w.Parents.length:Int)))))),(4,.pl (.one (.ref 3 []))),(5,.pl (.one (.ref 4 []))),(7,.pl (.one (.v (.sc (.int .i64 i))))),(8,.pl (.one (.ref 5 []))),(66,.pl (.one (.v (.sc (.bool b_2)))))],[(2,.box true [.list false 1 (List.map (rL false 1 (rK .i64)) w.Parents),.list false 4 (List.map (zF false) w.Bodies)]),(3,.list true 1 (List.map (rK .i64) born_1)),(4,.list true 1 (List.map (rL true 1 rB) proper)),(5,.box true [.sc (.string x_1.Line),.sc (.int .i64 x_1.Ins),.sc (.int .i64 x_1.Ord),.list false 1 (List.map (rK .i64) x_1.Dels)])]⟩) ?_ ?_
       ·simp only [List.take_succ_cons,List.take_zero]
        refine quV_sp (fun hc'=>?_) (fun hc'=>?_)
        ·replace gh1':=(ifF hc').symm.trans gh1'
         refine ops H' ?_
         obtain ⟨x64,hy',gh1'⟩:=zbi gh1'
         refine callGQ H' (W_spec_l01In _ _ _ _ hy') ?_
         refine ops H' ?_
         obtain rfl:=zso gh1'
         refine qU ?_
         exact ⟨rfl,shd [1,3,4,5,7,8,66] [(2,2),(3,3),(4,4),(5,5)] 6 rfl⟩
        ·replace gh1':=(ifT hc').symm.trans gh1'
         refine ops H' ?_
         obtain rfl:=zso gh1'
         refine qU ?_
         exact ⟨rfl,shd [1,3,4,5,7,8,66] [(2,2),(3,3),(4,4),(5,5)] 6 rfl⟩
       ·rintro e' rfl
        simp only [List.drop_succ_cons,List.drop_zero]
        refine ops H' ?_
        obtain ⟨b_3,gh1',h1'⟩:=zbi h1'
        refine quV_cut 9 (fun e'=>e'=⟨131,2,6,[(1,.pl (.one (.ref 2 []))),(3,.pl (.one (.v (.sc (.int .i64 (w.Parents.length:Int)))))),(4,.pl (.one (.ref 3 []))),(5,.pl (.one (.ref 4 []))),(7,.pl (.one (.v (.sc (.int .i64 i))))),(8,.pl (.one (.ref 5 []))),(76,.pl (.one (.v (.sc (.bool b_3)))))],[(2,.box true [.list false 1 (List.map (rL false 1 (rK .i64)) w.Parents),.list false 4 (List.map (zF false) w.Bodies)]),(3,.list true 1 (List.map (rK .i64) born_1)),(4,.list true 1 (List.map (rL true 1 rB) proper)),(5,.box true [.sc (.string x_1.Line),.sc (.int .i64 x_1.Ins),.sc (.int .i64 x_1.Ord),.list false 1 (List.map (rK .i64) x_1.Dels)])]⟩) ?_ ?_
        ·simp only [List.take_succ_cons,List.take_zero]
         refine quV_sp (fun hc'=>?_) (fun hc'=>?_)
         ·replace gh1':=(ifF hc').symm.trans gh1'
          obtain ⟨x_2,hv',gh1'⟩:=zbi gh1'
          have H':=And.intro (zP hv') H'
          refine ops H' ?_
          obtain rfl:=zso gh1'
          refine qU ?_
          exact ⟨rfl,shd [1,3,4,5,7,8,76] [(2,2),(3,3),(4,4),(5,5)] 6 rfl⟩
         ·replace gh1':=(ifT hc').symm.trans gh1'
          refine ops H' ?_
          obtain rfl:=zso gh1'
          refine qU ?_
          exact ⟨rfl,shd [1,3,4,5,7,8,76] [(2,2),(3,3),(4,4),(5,5)] 6 rfl⟩
        ·rintro e' rfl
         simp only [List.drop_succ_cons,List.drop_zero]
         refine ops H' ?_
         obtain ⟨b_4,gh1',h1'⟩:=zbi h1'
         refine quV_cut 6 (fun e'=>e'=⟨131,2,6,[(1,.pl (.one (.ref 2 []))),(3,.pl (.one (.v (.sc (.int .i64 (w.Parents.length:Int)))))),(4,.pl (.one (.ref 3 []))),(5,.pl (.one (.ref 4 []))),(7,.pl (.one (.v (.sc (.int .i64 i))))),(8,.pl (.one (.ref 5 []))),(83,.pl (.one (.v (.sc (.bool b_4)))))],[(2,.box true [.list false 1 (List.map (rL false 1 (rK .i64)) w.Parents),.list false 4 (List.map (zF false) w.Bodies)]),(3,.list true 1 (List.map (rK .i64) born_1)),(4,.list true 1 (List.map (rL true 1 rB) proper)),(5,.box true [.sc (.string x_1.Line),.sc (.int .i64 x_1.Ins),.sc (.int .i64 x_1.Ord),.list false 1 (List.map (rK .i64) x_1.Dels)])]⟩) ?_ ?_
         ·simp only [List.take_succ_cons,List.take_zero]
          refine quV_sp (fun hc'=>?_) (fun hc'=>?_)
          ·replace gh1':=(ifF hc').symm.trans gh1'
           refine ops H' ?_
           obtain ⟨x81,hy',gh1'⟩:=zbi gh1'
           refine callGQ H' (W_spec_l05Rise _ _ _ hy') ?_
           refine ops H' ?_
           obtain rfl:=zso gh1'
           refine qU ?_
           exact ⟨rfl,shd [1,3,4,5,7,8,83] [(2,2),(3,3),(4,4),(5,5)] 6 rfl⟩
          ·replace gh1':=(ifT hc').symm.trans gh1'
           refine ops H' ?_
           obtain rfl:=zso gh1'
           refine qU ?_
           exact ⟨rfl,shd [1,3,4,5,7,8,83] [(2,2),(3,3),(4,4),(5,5)] 6 rfl⟩
         ·rintro e' rfl
          simp only [List.drop_succ_cons,List.drop_zero]
          refine quN ?_
          refine zH (fun hc'=>?_) (fun hc'=>?_)
          ·replace h1':=(ifT hc').symm.trans h1'
           refine zB ?_
           refine zA ?_
           refine ops H' ?_
           refine zE ?_
           refine zN ?_
           obtain rfl:=zso h1'
           refine ⟨_,rfl,fun hr'=>?_⟩
           subst hr'
           obtain rfl:=zso h0'
           exact zO H' rfl rfl
          ·replace h1':=(ifF hc').symm.trans h1'
           refine zM ?_
           refine zB ?_
           obtain ⟨x_3,hv',h1'⟩:=zbi h1'
           have H':=And.intro (zP hv') H'
           refine wpV_J (fun e'=>e'=⟨131,2,6,[(1,.pl (.one (.ref 2 []))),(3,.pl (.one (.v (.sc (.int .i64 (w.Parents.length:Int)))))),(4,.pl (.one (.ref 3 []))),(5,.pl (.one (.ref 4 []))),(7,.pl (.one (.v (.sc (.int .i64 i))))),(8,.pl (.one (.ref 5 [])))],[(2,.box true [.list false 1 (List.map (rL false 1 (rK .i64)) w.Parents),.list false 4 (List.map (zF false) w.Bodies)]),(3,.list true 1 (List.map (rK .i64) (born_1.set x_1.Ins.toNat (wk .i64 (x_3+1))))),(4,.list true 1 (List.map (rL true 1 rB) proper)),(5,.box true [.sc (.string x_1.Line),.sc (.int .i64 x_1.Ins),.sc (.int .i64 x_1.Ord),.list false 1 (List.map (rK .i64) x_1.Dels)])]⟩) ?_ ?_
           ·refine regAnyF [(2,86,.pl (.one (.v (.sc (.int .i64 x_1.Ins))))),(5,89,.pl (.one (.v (.sc (.int .i64 x_1.Ins))))),(7,91,.pl (.one (.v (.sc (.int .i64 x_3))))),(8,92,.pl (.one (.v (.sc (.int .i64 (wk .i64 (x_3+1)))))))] ?_
            refine (?_:anyF X ?o1 _ _ ?P1 _)
            have d5':anyF X ?o1 [0,1,2,3,4,5,6,7,8,9,10] [] ?P1 ⟨131,2,6,[(1,.pl (.one (.ref 2 []))),(3,.pl (.one (.v (.sc (.int .i64 (w.Parents.length:Int)))))),(4,.pl (.one (.ref 3 []))),(5,.pl (.one (.ref 4 []))),(7,.pl (.one (.v (.sc (.int .i64 i))))),(8,.pl (.one (.ref 5 [])))],[(2,.box true [.list false 1 (List.map (rL false 1 (rK .i64)) w.Parents),.list false 4 (List.map (zF false) w.Bodies)]),(3,.list true 1 (List.map (rK .i64) (born_1.set x_1.Ins.toNat (wk .i64 (x_3+1))))),(4,.list true 1 (List.map (rL true 1 rB) proper)),(5,.box true [.sc (.string x_1.Line),.sc (.int .i64 x_1.Ins),.sc (.int .i64 x_1.Ord),.list false 1 (List.map (rK .i64) x_1.Dels)])]⟩:=by
             refine fend (e2:=⟨131,2,6,[(1,.pl (.one (.ref 2 []))),(3,.pl (.one (.v (.sc (.int .i64 (w.Parents.length:Int)))))),(4,.pl (.one (.ref 3 []))),(5,.pl (.one (.ref 4 []))),(7,.pl (.one (.v (.sc (.int .i64 i))))),(8,.pl (.one (.ref 5 [])))],[(2,.box true [.list false 1 (List.map (rL false 1 (rK .i64)) w.Parents),.list false 4 (List.map (zF false) w.Bodies)]),(3,.list true 1 (List.map (rK .i64) (born_1.set x_1.Ins.toNat (wk .i64 (x_3+1))))),(4,.list true 1 (List.map (rL true 1 rB) proper)),(5,.box true [.sc (.string x_1.Line),.sc (.int .i64 x_1.Ins),.sc (.int .i64 x_1.Ord),.list false 1 (List.map (rK .i64) x_1.Dels)])]⟩) [] [] [] [] trivial ⟨rfl,shd [1,3,4,5,7,8] [(2,2),(3,3),(4,4),(5,5)] 6 rfl⟩
            have d6':anyF X ?o1 [0,1,2,3,4,5,6,7,8,9] [] ?P1 ⟨131,2,6,[(1,.pl (.one (.ref 2 []))),(3,.pl (.one (.v (.sc (.int .i64 (w.Parents.length:Int)))))),(4,.pl (.one (.ref 3 []))),(5,.pl (.one (.ref 4 []))),(7,.pl (.one (.v (.sc (.int .i64 i))))),(8,.pl (.one (.ref 5 []))),(92,.pl (.one (.v (.sc (.int .i64 (wk .i64 (x_3+1))))))),(93,.pl (.one (.addr 3 [] 1 x_1.Ins.toNat 0)))],[(2,.box true [.list false 1 (List.map (rL false 1 (rK .i64)) w.Parents),.list false 4 (List.map (zF false) w.Bodies)]),(3,.list true 1 (List.map (rK .i64) born_1)),(4,.list true 1 (List.map (rL true 1 rB) proper)),(5,.box true [.sc (.string x_1.Line),.sc (.int .i64 x_1.Ins),.sc (.int .i64 x_1.Ord),.list false 1 (List.map (rK .i64) x_1.Dels)])]⟩:=by
             refine fnode [] [.m 10 [] [0,1,2,3,4,5,6,7,8,9,10] []] [] [(10,false,[],[0,1,2,3,4,5,6,7,8,9,10])] ⟨?_,trivial⟩
             ·refine obMx ⟨131,2,6,[(1,.pl (.one (.ref 2 []))),(3,.pl (.one (.v (.sc (.int .i64 (w.Parents.length:Int)))))),(4,.pl (.one (.ref 3 []))),(5,.pl (.one (.ref 4 []))),(7,.pl (.one (.v (.sc (.int .i64 i))))),(8,.pl (.one (.ref 5 []))),(92,.pl (.one (.v (.sc (.int .i64 (wk .i64 (x_3+1))))))),(93,.pl (.one (.addr 3 [] 1 x_1.Ins.toNat 0)))],[(2,.box true [.list false 1 (List.map (rL false 1 (rK .i64)) w.Parents),.list false 4 (List.map (zF false) w.Bodies)]),(3,.list true 1 (List.map (rK .i64) born_1)),(4,.list true 1 (List.map (rL true 1 rB) proper)),(5,.box true [.sc (.string x_1.Line),.sc (.int .i64 x_1.Ins),.sc (.int .i64 x_1.Ord),.list false 1 (List.map (rK .i64) x_1.Dels)])]⟩ ?_
              refine ops H' ?_
              refine zG ⟨rfl,.inl ⟨rfl,?_⟩⟩
              exact qN [1,3,4,5,7,8] [(2,2),(3,3),(4,4),(5,5)] 6 d5'
            have d7':anyF X ?o1 [0,1,3,4,5,6] [(2,86,.pl (.one (.v (.sc (.int .i64 x_1.Ins))))),(7,91,.pl (.one (.v (.sc (.int .i64 x_3))))),(8,92,.pl (.one (.v (.sc (.int .i64 (wk .i64 (x_3+1)))))))] ?P1 ⟨131,2,6,[(1,.pl (.one (.ref 2 []))),(3,.pl (.one (.v (.sc (.int .i64 (w.Parents.length:Int)))))),(4,.pl (.one (.ref 3 []))),(5,.pl (.one (.ref 4 []))),(7,.pl (.one (.v (.sc (.int .i64 i))))),(8,.pl (.one (.ref 5 []))),(84,.pl (.one (.ref 3 []))),(85,.pl (.one (.addr 5 [] 0 0 1))),(90,.pl (.one (.addr 3 [] 1 x_1.Ins.toNat 0)))],[(2,.box true [.list false 1 (List.map (rL false 1 (rK .i64)) w.Parents),.list false 4 (List.map (zF false) w.Bodies)]),(3,.list true 1 (List.map (rK .i64) born_1)),(4,.list true 1 (List.map (rL true 1 rB) proper)),(5,.box true [.sc (.string x_1.Line),.sc (.int .i64 x_1.Ins),.sc (.int .i64 x_1.Ord),.list false 1 (List.map (rK .i64) x_1.Dels)])]⟩:=by
             refine fnode [2,7,8] [.q 2 86 (.pl (.one (.v (.sc (.int .i64 x_1.Ins))))) [],.q 7 91 (.pl (.one (.v (.sc (.int .i64 x_3))))) [],.q 8 92 (.pl (.one (.v (.sc (.int .i64 (wk .i64 (x_3+1))))))) [7],.m 9 [2,7,8] [0,1,2,3,4,5,6,7,8,9] []] [(2,86),(7,91),(8,92)] [(2,true,[],[]),(7,true,[],[]),(8,true,[7],[]),(9,false,[2,7,8],[0,1,2,3,4,5,6,7,8,9])] ⟨?_,?_,?_,?_,trivial⟩
             ·refine qB 0 ⟨131,2,6,[(1,.pl (.one (.ref 2 []))),(3,.pl (.one (.v (.sc (.int .i64 (w.Parents.length:Int)))))),(4,.pl (.one (.ref 3 []))),(5,.pl (.one (.ref 4 []))),(7,.pl (.one (.v (.sc (.int .i64 i))))),(8,.pl (.one (.ref 5 []))),(84,.pl (.one (.ref 3 []))),(85,.pl (.one (.addr 5 [] 0 0 1))),(90,.pl (.one (.addr 3 [] 1 x_1.Ins.toNat 0)))],[(2,.box true [.list false 1 (List.map (rL false 1 (rK .i64)) w.Parents),.list false 4 (List.map (zF false) w.Bodies)]),(3,.list true 1 (List.map (rK .i64) born_1)),(4,.list true 1 (List.map (rL true 1 rB) proper)),(5,.box true [.sc (.string x_1.Line),.sc (.int .i64 x_1.Ins),.sc (.int .i64 x_1.Ord),.list false 1 (List.map (rK .i64) x_1.Dels)])]⟩ ?_
              refine ops H' ?_
              refine zG ⟨rfl,shd [86,1,3,4,5,7,8,84,85,90] [(2,2),(3,3),(4,4),(5,5)] 6 rfl⟩
             ·refine qB 1 ⟨131,2,6,[(1,.pl (.one (.ref 2 []))),(3,.pl (.one (.v (.sc (.int .i64 (w.Parents.length:Int)))))),(4,.pl (.one (.ref 3 []))),(5,.pl (.one (.ref 4 []))),(7,.pl (.one (.v (.sc (.int .i64 i))))),(8,.pl (.one (.ref 5 []))),(84,.pl (.one (.ref 3 []))),(85,.pl (.one (.addr 5 [] 0 0 1))),(90,.pl (.one (.addr 3 [] 1 x_1.Ins.toNat 0)))],[(2,.box true [.list false 1 (List.map (rL false 1 (rK .i64)) w.Parents),.list false 4 (List.map (zF false) w.Bodies)]),(3,.list true 1 (List.map (rK .i64) born_1)),(4,.list true 1 (List.map (rL true 1 rB) proper)),(5,.box true [.sc (.string x_1.Line),.sc (.int .i64 x_1.Ins),.sc (.int .i64 x_1.Ord),.list false 1 (List.map (rK .i64) x_1.Dels)])]⟩ ?_
              refine ops H' ?_
              refine zG ⟨rfl,shd [91,1,3,4,5,7,8,84,85,90] [(2,2),(3,3),(4,4),(5,5)] 6 rfl⟩
             ·refine qB 2 ⟨131,2,6,[(91,.pl (.one (.v (.sc (.int .i64 x_3))))),(1,.pl (.one (.ref 2 []))),(3,.pl (.one (.v (.sc (.int .i64 (w.Parents.length:Int)))))),(4,.pl (.one (.ref 3 []))),(5,.pl (.one (.ref 4 []))),(7,.pl (.one (.v (.sc (.int .i64 i))))),(8,.pl (.one (.ref 5 []))),(84,.pl (.one (.ref 3 []))),(85,.pl (.one (.addr 5 [] 0 0 1))),(90,.pl (.one (.addr 3 [] 1 x_1.Ins.toNat 0)))],[(2,.box true [.list false 1 (List.map (rL false 1 (rK .i64)) w.Parents),.list false 4 (List.map (zF false) w.Bodies)]),(3,.list true 1 (List.map (rK .i64) born_1)),(4,.list true 1 (List.map (rL true 1 rB) proper)),(5,.box true [.sc (.string x_1.Line),.sc (.int .i64 x_1.Ins),.sc (.int .i64 x_1.Ord),.list false 1 (List.map (rK .i64) x_1.Dels)])]⟩ ?_
              refine ops H' ?_
              refine zG ⟨rfl,shd [92,1,3,4,5,7,8,84,85,90] [(2,2),(3,3),(4,4),(5,5)] 6 rfl⟩
             ·refine obMx ⟨131,2,6,[(86,.pl (.one (.v (.sc (.int .i64 x_1.Ins))))),(91,.pl (.one (.v (.sc (.int .i64 x_3))))),(92,.pl (.one (.v (.sc (.int .i64 (wk .i64 (x_3+1))))))),(1,.pl (.one (.ref 2 []))),(3,.pl (.one (.v (.sc (.int .i64 (w.Parents.length:Int)))))),(4,.pl (.one (.ref 3 []))),(5,.pl (.one (.ref 4 []))),(7,.pl (.one (.v (.sc (.int .i64 i))))),(8,.pl (.one (.ref 5 []))),(84,.pl (.one (.ref 3 []))),(85,.pl (.one (.addr 5 [] 0 0 1))),(90,.pl (.one (.addr 3 [] 1 x_1.Ins.toNat 0)))],[(2,.box true [.list false 1 (List.map (rL false 1 (rK .i64)) w.Parents),.list false 4 (List.map (zF false) w.Bodies)]),(3,.list true 1 (List.map (rK .i64) born_1)),(4,.list true 1 (List.map (rL true 1 rB) proper)),(5,.box true [.sc (.string x_1.Line),.sc (.int .i64 x_1.Ins),.sc (.int .i64 x_1.Ord),.list false 1 (List.map (rK .i64) x_1.Dels)])]⟩ ?_
              refine ops H' ?_
              refine zG ⟨rfl,.inl ⟨rfl,?_⟩⟩
              exact qN [1,3,4,5,7,8,92,93] [(2,2),(3,3),(4,4),(5,5)] 6 d6'
            have d8':anyF X ?o1 [0,1,3,4] [(2,86,.pl (.one (.v (.sc (.int .i64 x_1.Ins))))),(5,89,.pl (.one (.v (.sc (.int .i64 x_1.Ins))))),(7,91,.pl (.one (.v (.sc (.int .i64 x_3))))),(8,92,.pl (.one (.v (.sc (.int .i64 (wk .i64 (x_3+1)))))))] ?P1 ⟨131,2,6,[(1,.pl (.one (.ref 2 []))),(3,.pl (.one (.v (.sc (.int .i64 (w.Parents.length:Int)))))),(4,.pl (.one (.ref 3 []))),(5,.pl (.one (.ref 4 []))),(7,.pl (.one (.v (.sc (.int .i64 i))))),(8,.pl (.one (.ref 5 []))),(84,.pl (.one (.ref 3 []))),(85,.pl (.one (.addr 5 [] 0 0 1))),(87,.pl (.one (.ref 3 []))),(88,.pl (.one (.addr 5 [] 0 0 1)))],[(2,.box true [.list false 1 (List.map (rL false 1 (rK .i64)) w.Parents),.list false 4 (List.map (zF false) w.Bodies)]),(3,.list true 1 (List.map (rK .i64) born_1)),(4,.list true 1 (List.map (rL true 1 rB) proper)),(5,.box true [.sc (.string x_1.Line),.sc (.int .i64 x_1.Ins),.sc (.int .i64 x_1.Ord),.list false 1 (List.map (rK .i64) x_1.Dels)])]⟩:=by
             refine fnode [2,5] [.q 2 86 (.pl (.one (.v (.sc (.int .i64 x_1.Ins))))) [],.q 5 89 (.pl (.one (.v (.sc (.int .i64 x_1.Ins))))) [],.m 6 [5] [0,1,3,4,5,6] [(2,86,.pl (.one (.v (.sc (.int .i64 x_1.Ins))))),(7,91,.pl (.one (.v (.sc (.int .i64 x_3))))),(8,92,.pl (.one (.v (.sc (.int .i64 (wk .i64 (x_3+1)))))))]] [(2,86),(5,89),(7,91),(8,92)] [(2,true,[],[]),(5,true,[],[]),(6,false,[5],[0,1,3,4,5,6])] ⟨?_,?_,?_,trivial⟩
             ·refine qB 0 ⟨131,2,6,[(1,.pl (.one (.ref 2 []))),(3,.pl (.one (.v (.sc (.int .i64 (w.Parents.length:Int)))))),(4,.pl (.one (.ref 3 []))),(5,.pl (.one (.ref 4 []))),(7,.pl (.one (.v (.sc (.int .i64 i))))),(8,.pl (.one (.ref 5 []))),(84,.pl (.one (.ref 3 []))),(85,.pl (.one (.addr 5 [] 0 0 1))),(87,.pl (.one (.ref 3 []))),(88,.pl (.one (.addr 5 [] 0 0 1)))],[(2,.box true [.list false 1 (List.map (rL false 1 (rK .i64)) w.Parents),.list false 4 (List.map (zF false) w.Bodies)]),(3,.list true 1 (List.map (rK .i64) born_1)),(4,.list true 1 (List.map (rL true 1 rB) proper)),(5,.box true [.sc (.string x_1.Line),.sc (.int .i64 x_1.Ins),.sc (.int .i64 x_1.Ord),.list false 1 (List.map (rK .i64) x_1.Dels)])]⟩ ?_
              refine ops H' ?_
              refine zG ⟨rfl,shd [86,1,3,4,5,7,8,84,85,87,88] [(2,2),(3,3),(4,4),(5,5)] 6 rfl⟩
             ·refine qB 1 ⟨131,2,6,[(1,.pl (.one (.ref 2 []))),(3,.pl (.one (.v (.sc (.int .i64 (w.Parents.length:Int)))))),(4,.pl (.one (.ref 3 []))),(5,.pl (.one (.ref 4 []))),(7,.pl (.one (.v (.sc (.int .i64 i))))),(8,.pl (.one (.ref 5 []))),(84,.pl (.one (.ref 3 []))),(85,.pl (.one (.addr 5 [] 0 0 1))),(87,.pl (.one (.ref 3 []))),(88,.pl (.one (.addr 5 [] 0 0 1)))],[(2,.box true [.list false 1 (List.map (rL false 1 (rK .i64)) w.Parents),.list false 4 (List.map (zF false) w.Bodies)]),(3,.list true 1 (List.map (rK .i64) born_1)),(4,.list true 1 (List.map (rL true 1 rB) proper)),(5,.box true [.sc (.string x_1.Line),.sc (.int .i64 x_1.Ins),.sc (.int .i64 x_1.Ord),.list false 1 (List.map (rK .i64) x_1.Dels)])]⟩ ?_
              refine ops H' ?_
              refine zG ⟨rfl,shd [89,1,3,4,5,7,8,84,85,87,88] [(2,2),(3,3),(4,4),(5,5)] 6 rfl⟩
             ·refine obMx ⟨131,2,6,[(89,.pl (.one (.v (.sc (.int .i64 x_1.Ins))))),(1,.pl (.one (.ref 2 []))),(3,.pl (.one (.v (.sc (.int .i64 (w.Parents.length:Int)))))),(4,.pl (.one (.ref 3 []))),(5,.pl (.one (.ref 4 []))),(7,.pl (.one (.v (.sc (.int .i64 i))))),(8,.pl (.one (.ref 5 []))),(84,.pl (.one (.ref 3 []))),(85,.pl (.one (.addr 5 [] 0 0 1))),(87,.pl (.one (.ref 3 []))),(88,.pl (.one (.addr 5 [] 0 0 1)))],[(2,.box true [.list false 1 (List.map (rL false 1 (rK .i64)) w.Parents),.list false 4 (List.map (zF false) w.Bodies)]),(3,.list true 1 (List.map (rK .i64) born_1)),(4,.list true 1 (List.map (rL true 1 rB) proper)),(5,.box true [.sc (.string x_1.Line),.sc (.int .i64 x_1.Ins),.sc (.int .i64 x_1.Ord),.list false 1 (List.map (rK .i64) x_1.Dels)])]⟩ ?_
              refine ops H' ?_
              refine zG ⟨rfl,.inl ⟨rfl,?_⟩⟩
              exact qN [1,3,4,5,7,8,84,85,90] [(2,2),(3,3),(4,4),(5,5)] 6 d7'
            refine fpure H' 0 [0] [(2,86),(5,89),(7,91),(8,92)] ?_
            refine fpure H' 1 [0,1] [(2,86),(5,89),(7,91),(8,92)] ?_
            refine fpure H' 3 [0,1,3] [(2,86),(5,89),(7,91),(8,92)] ?_
            refine fpure H' 4 [0,1,3,4] [(2,86),(5,89),(7,91),(8,92)] ?_
            exact qN [1,3,4,5,7,8,84,85,87,88] [(2,2),(3,3),(4,4),(5,5)] 6 d8'
           ·rintro e' rfl
            refine contN ?_
            refine zB ?_
            refine zA ?_
            refine ops H' ?_
            refine zE ?_
            obtain ⟨p_2,hl',h1'⟩:=zbi h1'
            refine zI ?_
            refine zS (fun k e'=>e'=⟨131,2,6,[(1,.pl (.one (.ref 2 []))),(3,.pl (.one (.v (.sc (.int .i64 (w.Parents.length:Int)))))),(4,.pl (.one (.ref 3 []))),(5,.pl (.one (.ref 4 []))),(7,.pl (.one (.v (.sc (.int .i64 i))))),(8,.pl (.one (.ref 5 []))),(9,.pl (.one (.v (.sc (.int .i64 k)))))],[(2,.box true [.list false 1 (List.map (rL false 1 (rK .i64)) w.Parents),.list false 4 (List.map (zF false) w.Bodies)]),(3,.list true 1 (List.map (rK .i64) (born_1.set x_1.Ins.toNat (wk .i64 (x_3+1))))),(4,.list true 1 (List.map (rL true 1 rB) proper)),(5,.box true [.sc (.string x_1.Line),.sc (.int .i64 x_1.Ins),.sc (.int .i64 x_1.Ord),.list false 1 (List.map (rK .i64) x_1.Dels)])]⟩) hl' (shd [1,3,4,5,7,8,9] [(2,2),(3,3),(4,4),(5,5)] 6 rfl) ?_
            rintro k y2' e' h2' rfl
            replace h2':spec_WeaveOk_l3 proper x_1 k=some y2':=h2'
            unfold spec_WeaveOk_l3 at h2'
            refine zB ?_
            refine zB ?_
            refine zA ?_
            refine ops H' ?_
            refine zE ?_
            refine zH (fun hc'=>?_) (fun hc'=>?_)
            ·replace h2':=(ifT hc').symm.trans h2'
             refine zM ?_
             refine zB ?_
             refine zI ?_
             refine zB ?_
             refine regQ ?_
             obtain ⟨x_4,hv',h2'⟩:=zbi h2'
             have H':=And.intro (zP hv') H'
             obtain ⟨x_5,hv',h2'⟩:=zbi h2'
             have H':=And.intro (zP hv') H'
             refine ops H' ?_
             obtain ⟨x110,hy',h2'⟩:=zbi h2'
             refine callGQ H' (W_spec_l06Live _ _ _ hy') ?_
             refine ops H' ?_
             refine quN ?_
             refine zH (fun hc'=>?_) (fun hc'=>?_)
             ·replace h2':=(ifT hc').symm.trans h2'
              refine zB ?_
              refine zA ?_
              refine ops H' ?_
              refine zE ?_
              refine zN ?_
              obtain rfl:=zso h2'
              refine ⟨_,rfl,fun hr'=>?_⟩
              subst hr'
              obtain rfl:=zso h1'
              refine ⟨_,rfl,fun hr'=>?_⟩
              subst hr'
              obtain rfl:=zso h0'
              exact zO H' rfl rfl
             ·replace h2':=(ifF hc').symm.trans h2'
              refine zM ?_
              refine zA ?_
              refine ops H' ?_
              refine zE ?_
              obtain rfl:=zso h2'
              exact shd [1,3,4,5,7,8,9] [(2,2),(3,3),(4,4),(5,5)] 6 ⟨_,rfl,rfl⟩
            ·replace h2':=(ifF hc').symm.trans h2'
             refine qJ ?_
             obtain rfl:=zso h2'
             refine ⟨_,rfl,fun hr'=>?_⟩
             subst hr'
             exact shd [1,3,4,5,7] [(2,2),(3,3),(4,4)] 5 ⟨_,h1',rfl⟩
      ·rintro e' ⟨born_2,h1',rfl⟩
       unfold spec_WeaveOk_j4 at h1'
       refine zA ?_
       refine ops H' ?_
       refine zE ?_
       obtain rfl:=zso h1'
       exact shd [1,3,4,5,7] [(2,2),(3,3),(4,4)] 5 ⟨_,rfl,_,_,rfl,rfl⟩
     ·replace h1':=(ifF hc').symm.trans h1'
      refine qJ ?_
      obtain rfl:=zso h1'
      refine ⟨_,rfl,fun hr'=>?_⟩
      subst hr'
      exact shd [1,3,4] [(2,2),(3,3)] 4 ⟨_,h0',rfl⟩
    ·rintro e' ⟨born,h0',rfl⟩
     unfold spec_WeaveOk_j2 at h0'
     refine zV (fun e'=>spec_WeaveOk_j3=some r'∧e'=⟨131,2,2,[],[]⟩) ?_ ?_
     ·refine zB ?_
      refine zA ?_
      refine ops H' ?_
      refine zE ?_
      obtain ⟨p,hl',h0'⟩:=zbi h0'
      refine zI ?_
      refine zS (fun v e'=>e'=⟨131,2,4,[(1,.pl (.one (.ref 2 []))),(3,.pl (.one (.v (.sc (.int .i64 (w.Parents.length:Int)))))),(4,.pl (.one (.ref 3 []))),(10,.pl (.one (.v (.sc (.int .i64 v)))))],[(2,.box true [.list false 1 (List.map (rL false 1 (rK .i64)) w.Parents),.list false 4 (List.map (zF false) w.Bodies)]),(3,.list true 1 (List.map (rK .i64) born))]⟩) hl' (shd [1,3,4,10] [(2,2),(3,3)] 4 rfl) ?_
      rintro v y1' e' h1' rfl
      replace h1':spec_WeaveOk_l1 w born v=some y1':=h1'
      unfold spec_WeaveOk_l1 at h1'
      refine zB ?_
      refine zB ?_
      refine zA ?_
      refine ops H' ?_
      refine zE ?_
      refine zH (fun hc'=>?_) (fun hc'=>?_)
      ·replace h1':=(ifT hc').symm.trans h1'
       refine zM ?_
       refine zB ?_
       refine zI ?_
       refine zB ?_
       obtain ⟨x,hv',h1'⟩:=zbi h1'
       have H':=And.intro (zP hv') H'
       obtain ⟨b_1,gh0_25_0,h1'⟩:=zbi h1'
       refine wpV_J (fun e'=>e'=⟨131,2,4,[(1,.pl (.one (.ref 2 []))),(3,.pl (.one (.v (.sc (.int .i64 (w.Parents.length:Int)))))),(4,.pl (.one (.ref 3 []))),(10,.pl (.one (.v (.sc (.int .i64 v))))),(130,.pl (.one (.v (.sc (.bool b_1)))))],[(2,.box true [.list false 1 (List.map (rL false 1 (rK .i64)) w.Parents),.list false 4 (List.map (zF false) w.Bodies)]),(3,.list true 1 (List.map (rK .i64) born))]⟩) ?_ ?_
       ·rcases Bool.eq_false_or_eq_true (decide (x > 80)) with hc5_25_0 | hc5_25_0
        ·replace gh0_25_0:=(ifT hc5_25_0).symm.trans gh0_25_0
         obtain rfl:=zso gh0_25_0
         refine regAnyF [(3,120,.pl (.one (.v (.sc (.int .i64 x))))),(4,121,.pl (.one (.v (.sc (.bool (decide (x > 80))))))),(5,122,.pl (.one (.v (.sc (.bool (decide (x > 80))))))),(6,123,.tup []),(7,124,.tup []),(8,125,.tup []),(9,126,.tup []),(10,127,.tup []),(11,128,.tup []),(12,129,.tup []),(13,130,.pl (.one (.v (.sc (.bool true)))))] ?_
         refine (?_:anyF X ?o2 _ _ ?P2 _)
         have d9':anyF X ?o2 [0,1,2] [(3,120,.pl (.one (.v (.sc (.int .i64 x))))),(4,121,.pl (.one (.v (.sc (.bool (decide (x > 80))))))),(5,122,.pl (.one (.v (.sc (.bool (decide (x > 80))))))),(6,123,.tup []),(7,124,.tup []),(8,125,.tup []),(9,126,.tup []),(10,127,.tup []),(11,128,.tup []),(12,129,.tup []),(13,130,.pl (.one (.v (.sc (.bool true)))))] ?P2 ⟨131,2,4,[(1,.pl (.one (.ref 2 []))),(3,.pl (.one (.v (.sc (.int .i64 (w.Parents.length:Int)))))),(4,.pl (.one (.ref 3 []))),(10,.pl (.one (.v (.sc (.int .i64 v))))),(119,.pl (.one (.addr 3 [] 1 v.toNat 0)))],[(2,.box true [.list false 1 (List.map (rL false 1 (rK .i64)) w.Parents),.list false 4 (List.map (zF false) w.Bodies)]),(3,.list true 1 (List.map (rK .i64) born))]⟩:=by
          refine fend (e2:=⟨131,2,4,[(120,.pl (.one (.v (.sc (.int .i64 x))))),(121,.pl (.one (.v (.sc (.bool (decide (x > 80))))))),(122,.pl (.one (.v (.sc (.bool (decide (x > 80))))))),(123,.tup []),(124,.tup []),(125,.tup []),(126,.tup []),(127,.tup []),(128,.tup []),(129,.tup []),(130,.pl (.one (.v (.sc (.bool true))))),(1,.pl (.one (.ref 2 []))),(3,.pl (.one (.v (.sc (.int .i64 (w.Parents.length:Int)))))),(4,.pl (.one (.ref 3 []))),(10,.pl (.one (.v (.sc (.int .i64 v))))),(119,.pl (.one (.addr 3 [] 1 v.toNat 0)))],[(2,.box true [.list false 1 (List.map (rL false 1 (rK .i64)) w.Parents),.list false 4 (List.map (zF false) w.Bodies)]),(3,.list true 1 (List.map (rK .i64) born))]⟩) [3,4,5,6,7,8,9,10,11,12,13] [.q 3 120 (.pl (.one (.v (.sc (.int .i64 x))))) [],.q 4 121 (.pl (.one (.v (.sc (.bool (decide (x > 80))))))) [3],.q 5 122 (.pl (.one (.v (.sc (.bool (decide (x > 80))))))) [4],.q 6 123 (.tup []) [5],.q 7 124 (.tup []) [5],.q 8 125 (.tup []) [5],.q 9 126 (.tup []) [5,7,8],.q 10 127 (.tup []) [5,6,9],.q 11 128 (.tup []) [5,10],.q 12 129 (.tup []) [5,11],.q 13 130 (.pl (.one (.v (.sc (.bool true))))) [5,12]] [(3,120),(4,121),(5,122),(6,123),(7,124),(8,125),(9,126),(10,127),(11,128),(12,129),(13,130)] [(3,true,[],[]),(4,true,[3],[]),(5,true,[4],[]),(6,true,[5],[]),(7,true,[5],[]),(8,true,[5],[]),(9,true,[5,7,8],[]),(10,true,[5,6,9],[]),(11,true,[5,10],[]),(12,true,[5,11],[]),(13,true,[5,12],[])] ⟨?_,?_,?_,?_,?_,?_,?_,?_,?_,?_,?_,trivial⟩ ⟨rfl,shd [1,3,4,10,130] [(2,2),(3,3)] 4 rfl⟩
          ·refine qB 0 ⟨131,2,4,[(1,.pl (.one (.ref 2 []))),(3,.pl (.one (.v (.sc (.int .i64 (w.Parents.length:Int)))))),(4,.pl (.one (.ref 3 []))),(10,.pl (.one (.v (.sc (.int .i64 v))))),(119,.pl (.one (.addr 3 [] 1 v.toNat 0)))],[(2,.box true [.list false 1 (List.map (rL false 1 (rK .i64)) w.Parents),.list false 4 (List.map (zF false) w.Bodies)]),(3,.list true 1 (List.map (rK .i64) born))]⟩ ?_
           refine ops H' ?_
           refine zG ⟨rfl,shd [120,1,3,4,10,119] [(2,2),(3,3)] 4 rfl⟩
          ·refine qB 1 ⟨131,2,4,[(120,.pl (.one (.v (.sc (.int .i64 x))))),(1,.pl (.one (.ref 2 []))),(3,.pl (.one (.v (.sc (.int .i64 (w.Parents.length:Int)))))),(4,.pl (.one (.ref 3 []))),(10,.pl (.one (.v (.sc (.int .i64 v))))),(119,.pl (.one (.addr 3 [] 1 v.toNat 0)))],[(2,.box true [.list false 1 (List.map (rL false 1 (rK .i64)) w.Parents),.list false 4 (List.map (zF false) w.Bodies)]),(3,.list true 1 (List.map (rK .i64) born))]⟩ ?_
           refine ops H' ?_
           refine zG ⟨rfl,shd [121,1,3,4,10,119] [(2,2),(3,3)] 4 rfl⟩
          ·refine qB 2 ⟨131,2,4,[(121,.pl (.one (.v (.sc (.bool (decide (x > 80))))))),(1,.pl (.one (.ref 2 []))),(3,.pl (.one (.v (.sc (.int .i64 (w.Parents.length:Int)))))),(4,.pl (.one (.ref 3 []))),(10,.pl (.one (.v (.sc (.int .i64 v))))),(119,.pl (.one (.addr 3 [] 1 v.toNat 0)))],[(2,.box true [.list false 1 (List.map (rL false 1 (rK .i64)) w.Parents),.list false 4 (List.map (zF false) w.Bodies)]),(3,.list true 1 (List.map (rK .i64) born))]⟩ ?_
           refine ops H' ?_
           refine zG ⟨rfl,shd [122,1,3,4,10,119] [(2,2),(3,3)] 4 rfl⟩
          ·refine qB 3 ⟨131,2,4,[(122,.pl (.one (.v (.sc (.bool (decide (x > 80))))))),(1,.pl (.one (.ref 2 []))),(3,.pl (.one (.v (.sc (.int .i64 (w.Parents.length:Int)))))),(4,.pl (.one (.ref 3 []))),(10,.pl (.one (.v (.sc (.int .i64 v))))),(119,.pl (.one (.addr 3 [] 1 v.toNat 0)))],[(2,.box true [.list false 1 (List.map (rL false 1 (rK .i64)) w.Parents),.list false 4 (List.map (zF false) w.Bodies)]),(3,.list true 1 (List.map (rK .i64) born))]⟩ ?_
           refine opsOff hc5_25_0 ?_
           refine zG ⟨rfl,shd [123,1,3,4,10,119] [(2,2),(3,3)] 4 rfl⟩
          ·refine qB 4 ⟨131,2,4,[(122,.pl (.one (.v (.sc (.bool (decide (x > 80))))))),(1,.pl (.one (.ref 2 []))),(3,.pl (.one (.v (.sc (.int .i64 (w.Parents.length:Int)))))),(4,.pl (.one (.ref 3 []))),(10,.pl (.one (.v (.sc (.int .i64 v))))),(119,.pl (.one (.addr 3 [] 1 v.toNat 0)))],[(2,.box true [.list false 1 (List.map (rL false 1 (rK .i64)) w.Parents),.list false 4 (List.map (zF false) w.Bodies)]),(3,.list true 1 (List.map (rK .i64) born))]⟩ ?_
           refine opsOff hc5_25_0 ?_
           refine zG ⟨rfl,shd [124,1,3,4,10,119] [(2,2),(3,3)] 4 rfl⟩
          ·refine qB 5 ⟨131,2,4,[(122,.pl (.one (.v (.sc (.bool (decide (x > 80))))))),(1,.pl (.one (.ref 2 []))),(3,.pl (.one (.v (.sc (.int .i64 (w.Parents.length:Int)))))),(4,.pl (.one (.ref 3 []))),(10,.pl (.one (.v (.sc (.int .i64 v))))),(119,.pl (.one (.addr 3 [] 1 v.toNat 0)))],[(2,.box true [.list false 1 (List.map (rL false 1 (rK .i64)) w.Parents),.list false 4 (List.map (zF false) w.Bodies)]),(3,.list true 1 (List.map (rK .i64) born))]⟩ ?_
           refine opsOff hc5_25_0 ?_
           refine zG ⟨rfl,shd [125,1,3,4,10,119] [(2,2),(3,3)] 4 rfl⟩
          ·refine qB 6 ⟨131,2,4,[(122,.pl (.one (.v (.sc (.bool (decide (x > 80))))))),(124,.tup []),(125,.tup []),(1,.pl (.one (.ref 2 []))),(3,.pl (.one (.v (.sc (.int .i64 (w.Parents.length:Int)))))),(4,.pl (.one (.ref 3 []))),(10,.pl (.one (.v (.sc (.int .i64 v))))),(119,.pl (.one (.addr 3 [] 1 v.toNat 0)))],[(2,.box true [.list false 1 (List.map (rL false 1 (rK .i64)) w.Parents),.list false 4 (List.map (zF false) w.Bodies)]),(3,.list true 1 (List.map (rK .i64) born))]⟩ ?_
           refine opsOff hc5_25_0 ?_
           refine zG ⟨rfl,shd [126,1,3,4,10,119] [(2,2),(3,3)] 4 rfl⟩
          ·refine qB 7 ⟨131,2,4,[(122,.pl (.one (.v (.sc (.bool (decide (x > 80))))))),(123,.tup []),(126,.tup []),(1,.pl (.one (.ref 2 []))),(3,.pl (.one (.v (.sc (.int .i64 (w.Parents.length:Int)))))),(4,.pl (.one (.ref 3 []))),(10,.pl (.one (.v (.sc (.int .i64 v))))),(119,.pl (.one (.addr 3 [] 1 v.toNat 0)))],[(2,.box true [.list false 1 (List.map (rL false 1 (rK .i64)) w.Parents),.list false 4 (List.map (zF false) w.Bodies)]),(3,.list true 1 (List.map (rK .i64) born))]⟩ ?_
           refine opsOff hc5_25_0 ?_
           refine zG ⟨rfl,shd [127,1,3,4,10,119] [(2,2),(3,3)] 4 rfl⟩
          ·refine qB 8 ⟨131,2,4,[(122,.pl (.one (.v (.sc (.bool (decide (x > 80))))))),(127,.tup []),(1,.pl (.one (.ref 2 []))),(3,.pl (.one (.v (.sc (.int .i64 (w.Parents.length:Int)))))),(4,.pl (.one (.ref 3 []))),(10,.pl (.one (.v (.sc (.int .i64 v))))),(119,.pl (.one (.addr 3 [] 1 v.toNat 0)))],[(2,.box true [.list false 1 (List.map (rL false 1 (rK .i64)) w.Parents),.list false 4 (List.map (zF false) w.Bodies)]),(3,.list true 1 (List.map (rK .i64) born))]⟩ ?_
           refine opsOff hc5_25_0 ?_
           refine zG ⟨rfl,shd [128,1,3,4,10,119] [(2,2),(3,3)] 4 rfl⟩
          ·refine qB 9 ⟨131,2,4,[(122,.pl (.one (.v (.sc (.bool (decide (x > 80))))))),(128,.tup []),(1,.pl (.one (.ref 2 []))),(3,.pl (.one (.v (.sc (.int .i64 (w.Parents.length:Int)))))),(4,.pl (.one (.ref 3 []))),(10,.pl (.one (.v (.sc (.int .i64 v))))),(119,.pl (.one (.addr 3 [] 1 v.toNat 0)))],[(2,.box true [.list false 1 (List.map (rL false 1 (rK .i64)) w.Parents),.list false 4 (List.map (zF false) w.Bodies)]),(3,.list true 1 (List.map (rK .i64) born))]⟩ ?_
           refine opsOff hc5_25_0 ?_
           refine zG ⟨rfl,shd [129,1,3,4,10,119] [(2,2),(3,3)] 4 rfl⟩
          ·refine qB 10 ⟨131,2,4,[(122,.pl (.one (.v (.sc (.bool (decide (x > 80))))))),(129,.tup []),(1,.pl (.one (.ref 2 []))),(3,.pl (.one (.v (.sc (.int .i64 (w.Parents.length:Int)))))),(4,.pl (.one (.ref 3 []))),(10,.pl (.one (.v (.sc (.int .i64 v))))),(119,.pl (.one (.addr 3 [] 1 v.toNat 0)))],[(2,.box true [.list false 1 (List.map (rL false 1 (rK .i64)) w.Parents),.list false 4 (List.map (zF false) w.Bodies)]),(3,.list true 1 (List.map (rK .i64) born))]⟩ ?_
           refine opsPick H' hc5_25_0 ?_
           refine zG ⟨rfl,shd [130,1,3,4,10,119] [(2,2),(3,3)] 4 rfl⟩
         refine fpure H' 0 [0] [(3,120),(4,121),(5,122),(6,123),(7,124),(8,125),(9,126),(10,127),(11,128),(12,129),(13,130)] ?_
         refine fpure H' 1 [0,1] [(3,120),(4,121),(5,122),(6,123),(7,124),(8,125),(9,126),(10,127),(11,128),(12,129),(13,130)] ?_
         refine fpure H' 2 [0,1,2] [(3,120),(4,121),(5,122),(6,123),(7,124),(8,125),(9,126),(10,127),(11,128),(12,129),(13,130)] ?_
         exact qN [1,3,4,10,119] [(2,2),(3,3)] 4 d9'
        ·replace gh0_25_0:=(ifF hc5_25_0).symm.trans gh0_25_0
         obtain ⟨x126,hy_x126,gh0_25_0⟩:=zbi gh0_25_0
         obtain ⟨x127,hy_x127,gh0_25_0⟩:=zbi gh0_25_0
         obtain rfl:=zso gh0_25_0
         refine regAnyF [(3,120,.pl (.one (.v (.sc (.int .i64 x))))),(4,121,.pl (.one (.v (.sc (.bool (decide (x > 80))))))),(5,122,.pl (.one (.v (.sc (.bool (decide (x > 80))))))),(6,123,.pl (.agg [.v (.list false 1 (List.map (rL false 1 (rK .i64)) w.Parents)),.v (.list false 4 (List.map (zF false) w.Bodies))])),(7,124,.pl (.agg [.v (.list false 1 (List.map (rL false 1 (rK .i64)) w.Parents)),.v (.list false 4 (List.map (zF false) w.Bodies))])),(8,125,.pl (.one (.v (.sc (.int .i64 v))))),(11,128,.pl (.one (.v (.sc (.int .i64 (x127.length:Int)))))),(12,129,.pl (.one (.v (.sc (.bool (decide ((x127.length:Int) > 80))))))),(13,130,.pl (.one (.v (.sc (.bool (decide ((x127.length:Int) > 80)))))))] ?_
         refine (?_:anyF X ?o3 _ _ ?P3 _)
         have d10':anyF X ?o3 [0,1,2,3,4,5,6,7,8,9,10] [(11,128,.pl (.one (.v (.sc (.int .i64 (x127.length:Int)))))),(12,129,.pl (.one (.v (.sc (.bool (decide ((x127.length:Int) > 80))))))),(13,130,.pl (.one (.v (.sc (.bool (decide ((x127.length:Int) > 80)))))))] ?P3 ⟨131,2,5,[(1,.pl (.one (.ref 2 []))),(3,.pl (.one (.v (.sc (.int .i64 (w.Parents.length:Int)))))),(4,.pl (.one (.ref 3 []))),(10,.pl (.one (.v (.sc (.int .i64 v))))),(122,.pl (.one (.v (.sc (.bool (decide (x > 80))))))),(127,.pl (.one (.ref 4 [])))],[(2,.box true [.list false 1 (List.map (rL false 1 (rK .i64)) w.Parents),.list false 4 (List.map (zF false) w.Bodies)]),(3,.list true 1 (List.map (rK .i64) born)),(4,.list true 1 (List.map (rK .i64) x127))]⟩:=by
          refine fend (e2:=⟨131,2,5,[(128,.pl (.one (.v (.sc (.int .i64 (x127.length:Int)))))),(129,.pl (.one (.v (.sc (.bool (decide ((x127.length:Int) > 80))))))),(130,.pl (.one (.v (.sc (.bool (decide ((x127.length:Int) > 80))))))),(1,.pl (.one (.ref 2 []))),(3,.pl (.one (.v (.sc (.int .i64 (w.Parents.length:Int)))))),(4,.pl (.one (.ref 3 []))),(10,.pl (.one (.v (.sc (.int .i64 v))))),(122,.pl (.one (.v (.sc (.bool (decide (x > 80))))))),(127,.pl (.one (.ref 4 [])))],[(2,.box true [.list false 1 (List.map (rL false 1 (rK .i64)) w.Parents),.list false 4 (List.map (zF false) w.Bodies)]),(3,.list true 1 (List.map (rK .i64) born)),(4,.list true 1 (List.map (rK .i64) x127))]⟩) [11,12,13] [.q 11 128 (.pl (.one (.v (.sc (.int .i64 (x127.length:Int)))))) [],.q 12 129 (.pl (.one (.v (.sc (.bool (decide ((x127.length:Int) > 80))))))) [11],.q 13 130 (.pl (.one (.v (.sc (.bool (decide ((x127.length:Int) > 80))))))) [12]] [(11,128),(12,129),(13,130)] [(11,true,[],[]),(12,true,[11],[]),(13,true,[12],[])] ⟨?_,?_,?_,trivial⟩ ⟨rfl,shd [1,3,4,10,130] [(2,2),(3,3)] 4 rfl⟩
          ·refine qB 0 ⟨131,2,5,[(1,.pl (.one (.ref 2 []))),(3,.pl (.one (.v (.sc (.int .i64 (w.Parents.length:Int)))))),(4,.pl (.one (.ref 3 []))),(10,.pl (.one (.v (.sc (.int .i64 v))))),(122,.pl (.one (.v (.sc (.bool (decide (x > 80))))))),(127,.pl (.one (.ref 4 [])))],[(2,.box true [.list false 1 (List.map (rL false 1 (rK .i64)) w.Parents),.list false 4 (List.map (zF false) w.Bodies)]),(3,.list true 1 (List.map (rK .i64) born)),(4,.list true 1 (List.map (rK .i64) x127))]⟩ ?_
           refine opsOn hc5_25_0 ?_
           refine ops H' ?_
           refine zG ⟨rfl,shd [128,1,3,4,10,122,127] [(2,2),(3,3),(4,4)] 5 rfl⟩
          ·refine qB 1 ⟨131,2,5,[(128,.pl (.one (.v (.sc (.int .i64 (x127.length:Int)))))),(1,.pl (.one (.ref 2 []))),(3,.pl (.one (.v (.sc (.int .i64 (w.Parents.length:Int)))))),(4,.pl (.one (.ref 3 []))),(10,.pl (.one (.v (.sc (.int .i64 v))))),(122,.pl (.one (.v (.sc (.bool (decide (x > 80))))))),(127,.pl (.one (.ref 4 [])))],[(2,.box true [.list false 1 (List.map (rL false 1 (rK .i64)) w.Parents),.list false 4 (List.map (zF false) w.Bodies)]),(3,.list true 1 (List.map (rK .i64) born)),(4,.list true 1 (List.map (rK .i64) x127))]⟩ ?_
           refine opsOn hc5_25_0 ?_
           refine ops H' ?_
           refine zG ⟨rfl,shd [129,1,3,4,10,122,127] [(2,2),(3,3),(4,4)] 5 rfl⟩
          ·refine qB 2 ⟨131,2,5,[(129,.pl (.one (.v (.sc (.bool (decide ((x127.length:Int) > 80))))))),(1,.pl (.one (.ref 2 []))),(3,.pl (.one (.v (.sc (.int .i64 (w.Parents.length:Int)))))),(4,.pl (.one (.ref 3 []))),(10,.pl (.one (.v (.sc (.int .i64 v))))),(122,.pl (.one (.v (.sc (.bool (decide (x > 80))))))),(127,.pl (.one (.ref 4 [])))],[(2,.box true [.list false 1 (List.map (rL false 1 (rK .i64)) w.Parents),.list false 4 (List.map (zF false) w.Bodies)]),(3,.list true 1 (List.map (rK .i64) born)),(4,.list true 1 (List.map (rK .i64) x127))]⟩ ?_
           refine opsPick H' hc5_25_0 ?_
           refine zG ⟨rfl,shd [130,1,3,4,10,122,127] [(2,2),(3,3),(4,4)] 5 rfl⟩
         have d11':anyF X ?o3 [0,1,2,3,4,5,7,8,9] [(6,123,.pl (.agg [.v (.list false 1 (List.map (rL false 1 (rK .i64)) w.Parents)),.v (.list false 4 (List.map (zF false) w.Bodies))])),(11,128,.pl (.one (.v (.sc (.int .i64 (x127.length:Int)))))),(12,129,.pl (.one (.v (.sc (.bool (decide ((x127.length:Int) > 80))))))),(13,130,.pl (.one (.v (.sc (.bool (decide ((x127.length:Int) > 80)))))))] ?P3 ⟨131,2,5,[(1,.pl (.one (.ref 2 []))),(3,.pl (.one (.v (.sc (.int .i64 (w.Parents.length:Int)))))),(4,.pl (.one (.ref 3 []))),(10,.pl (.one (.v (.sc (.int .i64 v))))),(122,.pl (.one (.v (.sc (.bool (decide (x > 80))))))),(126,.pl (.one (.ref 4 [])))],[(2,.box true [.list false 1 (List.map (rL false 1 (rK .i64)) w.Parents),.list false 4 (List.map (zF false) w.Bodies)]),(3,.list true 1 (List.map (rK .i64) born)),(4,.list true 1 (List.map rB x126))]⟩:=by
          refine fnode [6] [.q 6 123 (.pl (.agg [.v (.list false 1 (List.map (rL false 1 (rK .i64)) w.Parents)),.v (.list false 4 (List.map (zF false) w.Bodies))])) [],.m 10 [6] [0,1,2,3,4,5,6,7,8,9,10] [(11,128,.pl (.one (.v (.sc (.int .i64 (x127.length:Int)))))),(12,129,.pl (.one (.v (.sc (.bool (decide ((x127.length:Int) > 80))))))),(13,130,.pl (.one (.v (.sc (.bool (decide ((x127.length:Int) > 80)))))))]] [(6,123),(11,128),(12,129),(13,130)] [(6,true,[],[]),(10,false,[6],[0,1,2,3,4,5,6,7,8,9,10])] ⟨?_,?_,trivial⟩
          ·refine qB 0 ⟨131,2,5,[(1,.pl (.one (.ref 2 []))),(3,.pl (.one (.v (.sc (.int .i64 (w.Parents.length:Int)))))),(4,.pl (.one (.ref 3 []))),(10,.pl (.one (.v (.sc (.int .i64 v))))),(122,.pl (.one (.v (.sc (.bool (decide (x > 80))))))),(126,.pl (.one (.ref 4 [])))],[(2,.box true [.list false 1 (List.map (rL false 1 (rK .i64)) w.Parents),.list false 4 (List.map (zF false) w.Bodies)]),(3,.list true 1 (List.map (rK .i64) born)),(4,.list true 1 (List.map rB x126))]⟩ ?_
           refine opsOn hc5_25_0 ?_
           refine ops H' ?_
           refine zG ⟨rfl,shd [123,1,3,4,10,122,126] [(2,2),(3,3),(4,4)] 5 rfl⟩
          ·refine obMx ⟨131,2,5,[(123,.pl (.agg [.v (.list false 1 (List.map (rL false 1 (rK .i64)) w.Parents)),.v (.list false 4 (List.map (zF false) w.Bodies))])),(1,.pl (.one (.ref 2 []))),(3,.pl (.one (.v (.sc (.int .i64 (w.Parents.length:Int)))))),(4,.pl (.one (.ref 3 []))),(10,.pl (.one (.v (.sc (.int .i64 v))))),(122,.pl (.one (.v (.sc (.bool (decide (x > 80))))))),(126,.pl (.one (.ref 4 [])))],[(2,.box true [.list false 1 (List.map (rL false 1 (rK .i64)) w.Parents),.list false 4 (List.map (zF false) w.Bodies)]),(3,.list true 1 (List.map (rK .i64) born)),(4,.list true 1 (List.map rB x126))]⟩ ?_
           refine opsOn hc5_25_0 ?_
           refine zR H' (fun _=>[]) (W_spec_l06Places _ _ _ hy_x127) ?_
           refine zG ⟨rfl,.inl ⟨rfl,?_⟩⟩
           exact qN [1,3,4,10,122,127] [(2,2),(3,3),(5,4)] 5 d10'
         have d12':anyF X ?o3 [0,1,2] [(3,120,.pl (.one (.v (.sc (.int .i64 x))))),(4,121,.pl (.one (.v (.sc (.bool (decide (x > 80))))))),(5,122,.pl (.one (.v (.sc (.bool (decide (x > 80))))))),(6,123,.pl (.agg [.v (.list false 1 (List.map (rL false 1 (rK .i64)) w.Parents)),.v (.list false 4 (List.map (zF false) w.Bodies))])),(7,124,.pl (.agg [.v (.list false 1 (List.map (rL false 1 (rK .i64)) w.Parents)),.v (.list false 4 (List.map (zF false) w.Bodies))])),(8,125,.pl (.one (.v (.sc (.int .i64 v))))),(11,128,.pl (.one (.v (.sc (.int .i64 (x127.length:Int)))))),(12,129,.pl (.one (.v (.sc (.bool (decide ((x127.length:Int) > 80))))))),(13,130,.pl (.one (.v (.sc (.bool (decide ((x127.length:Int) > 80)))))))] ?P3 ⟨131,2,4,[(1,.pl (.one (.ref 2 []))),(3,.pl (.one (.v (.sc (.int .i64 (w.Parents.length:Int)))))),(4,.pl (.one (.ref 3 []))),(10,.pl (.one (.v (.sc (.int .i64 v))))),(119,.pl (.one (.addr 3 [] 1 v.toNat 0)))],[(2,.box true [.list false 1 (List.map (rL false 1 (rK .i64)) w.Parents),.list false 4 (List.map (zF false) w.Bodies)]),(3,.list true 1 (List.map (rK .i64) born))]⟩:=by
          refine fnode [3,4,5,6,7,8] [.q 3 120 (.pl (.one (.v (.sc (.int .i64 x))))) [],.q 4 121 (.pl (.one (.v (.sc (.bool (decide (x > 80))))))) [3],.q 5 122 (.pl (.one (.v (.sc (.bool (decide (x > 80))))))) [4],.q 6 123 (.pl (.agg [.v (.list false 1 (List.map (rL false 1 (rK .i64)) w.Parents)),.v (.list false 4 (List.map (zF false) w.Bodies))])) [5],.q 7 124 (.pl (.agg [.v (.list false 1 (List.map (rL false 1 (rK .i64)) w.Parents)),.v (.list false 4 (List.map (zF false) w.Bodies))])) [5],.q 8 125 (.pl (.one (.v (.sc (.int .i64 v))))) [5],.m 9 [5,7,8,4,3] [0,1,2,3,4,5,7,8,9] [(6,123,.pl (.agg [.v (.list false 1 (List.map (rL false 1 (rK .i64)) w.Parents)),.v (.list false 4 (List.map (zF false) w.Bodies))])),(11,128,.pl (.one (.v (.sc (.int .i64 (x127.length:Int)))))),(12,129,.pl (.one (.v (.sc (.bool (decide ((x127.length:Int) > 80))))))),(13,130,.pl (.one (.v (.sc (.bool (decide ((x127.length:Int) > 80)))))))]] [(3,120),(4,121),(5,122),(6,123),(7,124),(8,125),(11,128),(12,129),(13,130)] [(3,true,[],[]),(4,true,[3],[]),(5,true,[4],[]),(6,true,[5],[]),(7,true,[5],[]),(8,true,[5],[]),(9,false,[5,7,8,4,3],[0,1,2,3,4,5,7,8,9])] ⟨?_,?_,?_,?_,?_,?_,?_,trivial⟩
          ·refine qB 0 ⟨131,2,4,[(1,.pl (.one (.ref 2 []))),(3,.pl (.one (.v (.sc (.int .i64 (w.Parents.length:Int)))))),(4,.pl (.one (.ref 3 []))),(10,.pl (.one (.v (.sc (.int .i64 v))))),(119,.pl (.one (.addr 3 [] 1 v.toNat 0)))],[(2,.box true [.list false 1 (List.map (rL false 1 (rK .i64)) w.Parents),.list false 4 (List.map (zF false) w.Bodies)]),(3,.list true 1 (List.map (rK .i64) born))]⟩ ?_
           refine ops H' ?_
           refine zG ⟨rfl,shd [120,1,3,4,10,119] [(2,2),(3,3)] 4 rfl⟩
          ·refine qB 1 ⟨131,2,4,[(120,.pl (.one (.v (.sc (.int .i64 x))))),(1,.pl (.one (.ref 2 []))),(3,.pl (.one (.v (.sc (.int .i64 (w.Parents.length:Int)))))),(4,.pl (.one (.ref 3 []))),(10,.pl (.one (.v (.sc (.int .i64 v))))),(119,.pl (.one (.addr 3 [] 1 v.toNat 0)))],[(2,.box true [.list false 1 (List.map (rL false 1 (rK .i64)) w.Parents),.list false 4 (List.map (zF false) w.Bodies)]),(3,.list true 1 (List.map (rK .i64) born))]⟩ ?_
           refine ops H' ?_
           refine zG ⟨rfl,shd [121,1,3,4,10,119] [(2,2),(3,3)] 4 rfl⟩
          ·refine qB 2 ⟨131,2,4,[(121,.pl (.one (.v (.sc (.bool (decide (x > 80))))))),(1,.pl (.one (.ref 2 []))),(3,.pl (.one (.v (.sc (.int .i64 (w.Parents.length:Int)))))),(4,.pl (.one (.ref 3 []))),(10,.pl (.one (.v (.sc (.int .i64 v))))),(119,.pl (.one (.addr 3 [] 1 v.toNat 0)))],[(2,.box true [.list false 1 (List.map (rL false 1 (rK .i64)) w.Parents),.list false 4 (List.map (zF false) w.Bodies)]),(3,.list true 1 (List.map (rK .i64) born))]⟩ ?_
           refine ops H' ?_
           refine zG ⟨rfl,shd [122,1,3,4,10,119] [(2,2),(3,3)] 4 rfl⟩
          ·refine qB 3 ⟨131,2,4,[(122,.pl (.one (.v (.sc (.bool (decide (x > 80))))))),(1,.pl (.one (.ref 2 []))),(3,.pl (.one (.v (.sc (.int .i64 (w.Parents.length:Int)))))),(4,.pl (.one (.ref 3 []))),(10,.pl (.one (.v (.sc (.int .i64 v))))),(119,.pl (.one (.addr 3 [] 1 v.toNat 0)))],[(2,.box true [.list false 1 (List.map (rL false 1 (rK .i64)) w.Parents),.list false 4 (List.map (zF false) w.Bodies)]),(3,.list true 1 (List.map (rK .i64) born))]⟩ ?_
           refine opsOn hc5_25_0 ?_
           refine ops H' ?_
           refine zG ⟨rfl,shd [123,1,3,4,10,119] [(2,2),(3,3)] 4 rfl⟩
          ·refine qB 4 ⟨131,2,4,[(122,.pl (.one (.v (.sc (.bool (decide (x > 80))))))),(1,.pl (.one (.ref 2 []))),(3,.pl (.one (.v (.sc (.int .i64 (w.Parents.length:Int)))))),(4,.pl (.one (.ref 3 []))),(10,.pl (.one (.v (.sc (.int .i64 v))))),(119,.pl (.one (.addr 3 [] 1 v.toNat 0)))],[(2,.box true [.list false 1 (List.map (rL false 1 (rK .i64)) w.Parents),.list false 4 (List.map (zF false) w.Bodies)]),(3,.list true 1 (List.map (rK .i64) born))]⟩ ?_
           refine opsOn hc5_25_0 ?_
           refine ops H' ?_
           refine zG ⟨rfl,shd [124,1,3,4,10,119] [(2,2),(3,3)] 4 rfl⟩
          ·refine qB 5 ⟨131,2,4,[(122,.pl (.one (.v (.sc (.bool (decide (x > 80))))))),(1,.pl (.one (.ref 2 []))),(3,.pl (.one (.v (.sc (.int .i64 (w.Parents.length:Int)))))),(4,.pl (.one (.ref 3 []))),(10,.pl (.one (.v (.sc (.int .i64 v))))),(119,.pl (.one (.addr 3 [] 1 v.toNat 0)))],[(2,.box true [.list false 1 (List.map (rL false 1 (rK .i64)) w.Parents),.list false 4 (List.map (zF false) w.Bodies)]),(3,.list true 1 (List.map (rK .i64) born))]⟩ ?_
           refine opsOn hc5_25_0 ?_
           refine ops H' ?_
           refine zG ⟨rfl,shd [125,1,3,4,10,119] [(2,2),(3,3)] 4 rfl⟩
          ·refine obMx ⟨131,2,4,[(120,.pl (.one (.v (.sc (.int .i64 x))))),(121,.pl (.one (.v (.sc (.bool (decide (x > 80))))))),(122,.pl (.one (.v (.sc (.bool (decide (x > 80))))))),(124,.pl (.agg [.v (.list false 1 (List.map (rL false 1 (rK .i64)) w.Parents)),.v (.list false 4 (List.map (zF false) w.Bodies))])),(125,.pl (.one (.v (.sc (.int .i64 v))))),(1,.pl (.one (.ref 2 []))),(3,.pl (.one (.v (.sc (.int .i64 (w.Parents.length:Int)))))),(4,.pl (.one (.ref 3 []))),(10,.pl (.one (.v (.sc (.int .i64 v))))),(119,.pl (.one (.addr 3 [] 1 v.toNat 0)))],[(2,.box true [.list false 1 (List.map (rL false 1 (rK .i64)) w.Parents),.list false 4 (List.map (zF false) w.Bodies)]),(3,.list true 1 (List.map (rK .i64) born))]⟩ ?_
           refine opsOn hc5_25_0 ?_
           refine zR H' (fun _=>[]) (W_spec_l06Closure _ _ _ hy_x126) ?_
           refine zG ⟨rfl,.inl ⟨rfl,?_⟩⟩
           exact qN [1,3,4,10,122,126] [(2,2),(3,3),(4,4)] 5 d11'
         refine fpure H' 0 [0] [(3,120),(4,121),(5,122),(6,123),(7,124),(8,125),(11,128),(12,129),(13,130)] ?_
         refine fpure H' 1 [0,1] [(3,120),(4,121),(5,122),(6,123),(7,124),(8,125),(11,128),(12,129),(13,130)] ?_
         refine fpure H' 2 [0,1,2] [(3,120),(4,121),(5,122),(6,123),(7,124),(8,125),(11,128),(12,129),(13,130)] ?_
         exact qN [1,3,4,10,119] [(2,2),(3,3)] 4 d12'
       ·rintro e' rfl
        refine contN ?_
        refine zH (fun hc'=>?_) (fun hc'=>?_)
        ·replace h1':=(ifT hc').symm.trans h1'
         refine zB ?_
         refine zA ?_
         refine ops H' ?_
         refine zE ?_
         refine zN ?_
         obtain rfl:=zso h1'
         refine ⟨_,rfl,fun hr'=>?_⟩
         subst hr'
         obtain rfl:=zso h0'
         exact zO H' rfl rfl
        ·replace h1':=(ifF hc').symm.trans h1'
         refine zM ?_
         refine zA ?_
         refine ops H' ?_
         refine zE ?_
         obtain rfl:=zso h1'
         exact shd [1,3,4,10] [(2,2),(3,3)] 4 ⟨_,rfl,rfl⟩
      ·replace h1':=(ifF hc').symm.trans h1'
       refine qJ ?_
       obtain rfl:=zso h1'
       refine ⟨_,rfl,fun hr'=>?_⟩
       subst hr'
       exact shd [] [] 2 ⟨h0',rfl⟩
     ·rintro e' ⟨h0',rfl⟩
      unfold spec_WeaveOk_j3 at h0'
      refine zB ?_
      refine zA ?_
      refine ops H' ?_
      refine zE ?_
      refine zN ?_
      obtain rfl:=zso h0'
      exact zO H' rfl rfl
theorem W_spec_l15Versions (s:T_impl_Store) (r':(List Int)) (h0':spec_l15Versions s=some r'):Fn X 66 [.agg [.list false 3 (List.map (zC false) s.Commits),.list false 2 (List.map (zD false) s.Files)]] [.one (.list true 1 (List.map (rK .i64) r'))] []:=by
 have H':=And.intro t3 (And.intro t25 (And.intro t27 (And.intro t33 (And.intro t36 (And.intro t40 (And.intro qT (And.intro qL (And.intro qI (And.intro zZ (And.intro qV (qK)))))))))))
 unfold spec_l15Versions at h0'
 refine Fn.start (fn:=f66) (N:=24) (res:=[.tmp 2]) rfl rfl rfl rfl rfl (by simp) ?_
 refine zU H' ?_
 refine zB ?_
 refine zA ?_
 refine ops H' ?_
 refine zE ?_
 refine zB ?_
 refine zA ?_
 refine ops H' ?_
 refine zE ?_
 refine zV (fun e'=>∃ out_,spec_l15Versions_j1 out_=some r'∧e'=⟨24,2,3,[(3,.pl (.one (.ref 2 [])))],[(2,.list true 1 (List.map (rK .i64) out_))]⟩) ?_ ?_
 ·refine zB ?_
  refine zA ?_
  refine ops H' ?_
  refine zE ?_
  obtain ⟨p,hl',h0'⟩:=zbi h0'
  refine zI ?_
  refine zS (fun s' e'=>∃ i out__1,s'=(i,out__1)∧e'=⟨24,2,4,[(1,.pl (.one (.ref 2 []))),(3,.pl (.one (.ref 3 []))),(4,.pl (.one (.v (.sc (.int .i64 i)))))],[(2,.box true [.list false 3 (List.map (zC false) s.Commits),.list false 2 (List.map (zD false) s.Files)]),(3,.list true 1 (List.map (rK .i64) out__1))]⟩) hl' (shd [1,3,4] [(2,2),(4,3)] 4 ⟨_,_,rfl,rfl⟩) ?_
  rintro s' y1' e' h1' ⟨i,out__1,rfl,rfl⟩
  replace h1':spec_l15Versions_l1 s i out__1=some y1':=h1'
  unfold spec_l15Versions_l1 at h1'
  refine zB ?_
  refine zB ?_
  refine zA ?_
  refine ops H' ?_
  refine zE ?_
  refine zH (fun hc'=>?_) (fun hc'=>?_)
  ·replace h1':=(ifT hc').symm.trans h1'
   refine zM ?_
   refine zB ?_
   refine zI ?_
   refine zA ?_
   obtain ⟨x,hv',h1'⟩:=zbi h1'
   have H':=And.intro (zP hv') H'
   obtain ⟨l,hv',h1'⟩:=zbi h1'
   have H':=And.intro (app1_f hv') H'
   refine ops H' ?_
   refine zE ?_
   refine zA ?_
   refine ops H' ?_
   refine zE ?_
   obtain rfl:=zso h1'
   exact shd [1,3,4] [(2,2),(3,3)] 4 ⟨_,rfl,_,_,rfl,rfl⟩
  ·replace h1':=(ifF hc').symm.trans h1'
   refine qJ ?_
   obtain rfl:=zso h1'
   refine ⟨_,rfl,fun hr'=>?_⟩
   subst hr'
   exact shd [3] [(3,2)] 3 ⟨_,h0',rfl⟩
 ·rintro e' ⟨out_,h0',rfl⟩
  unfold spec_l15Versions_j1 at h0'
  refine zB ?_
  refine zA ?_
  refine ops H' ?_
  refine zE ?_
  refine zN ?_
  obtain rfl:=zso h0'
  exact zO H' rfl rfl
theorem W_spec_l14Graph (list_:List T_impl_Commit) (r':(List (List Int))) (h0':spec_l14Graph list_=some r'):Fn X 163 [.one (.list false 3 (List.map (zC false) list_))] [.one (.list true 1 (List.map (rL false 1 (rK .i64)) r'))] []:=by
 have H':=And.intro t3 (And.intro t24 (And.intro t33 (And.intro t40 (And.intro t43 (And.intro qT (And.intro qI (And.intro zZ (qK))))))))
 unfold spec_l14Graph at h0'
 refine Fn.start (fn:=f163) (N:=21) (res:=[.tmp 2]) rfl rfl rfl rfl rfl (by simp) ?_
 refine zU H' ?_
 refine zB ?_
 refine zA ?_
 refine ops H' ?_
 refine zE ?_
 refine zB ?_
 refine zA ?_
 refine ops H' ?_
 refine zE ?_
 refine zV (fun e'=>∃ out_,spec_l14Graph_j1 out_=some r'∧e'=⟨21,1,2,[(3,.pl (.one (.ref 1 [])))],[(1,.list true 1 (List.map (rL false 1 (rK .i64)) out_))]⟩) ?_ ?_
 ·refine zB ?_
  refine zA ?_
  refine ops H' ?_
  refine zE ?_
  obtain ⟨p,hl',h0'⟩:=zbi h0'
  refine zI ?_
  refine zS (fun s' e'=>∃ i out__1,s'=(i,out__1)∧e'=⟨21,1,2,[(0,.pl (.one (.v (.list false 3 (List.map (zC false) list_))))),(3,.pl (.one (.ref 1 []))),(4,.pl (.one (.v (.sc (.int .i64 i)))))],[(1,.list true 1 (List.map (rL false 1 (rK .i64)) out__1))]⟩) hl' (shd [0,3,4] [(2,1)] 2 ⟨_,_,rfl,rfl⟩) ?_
  rintro s' y1' e' h1' ⟨i,out__1,rfl,rfl⟩
  replace h1':spec_l14Graph_l1 list_ i out__1=some y1':=h1'
  unfold spec_l14Graph_l1 at h1'
  refine zB ?_
  refine zB ?_
  refine zA ?_
  refine ops H' ?_
  refine zE ?_
  refine zH (fun hc'=>?_) (fun hc'=>?_)
  ·replace h1':=(ifT hc').symm.trans h1'
   refine zM ?_
   refine zB ?_
   refine zI ?_
   refine zA ?_
   obtain ⟨x,hv',h1'⟩:=zbi h1'
   have H':=And.intro (zP hv') H'
   obtain ⟨l,hv',h1'⟩:=zbi h1'
   have H':=And.intro (app1_f hv') H'
   refine ops H' ?_
   refine zE ?_
   refine zA ?_
   refine ops H' ?_
   refine zE ?_
   obtain rfl:=zso h1'
   exact shd [0,3,4] [(1,1)] 2 ⟨_,rfl,_,_,rfl,rfl⟩
  ·replace h1':=(ifF hc').symm.trans h1'
   refine qJ ?_
   obtain rfl:=zso h1'
   refine ⟨_,rfl,fun hr'=>?_⟩
   subst hr'
   exact shd [3] [(1,1)] 2 ⟨_,h0',rfl⟩
 ·rintro e' ⟨out_,h0',rfl⟩
  unfold spec_l14Graph_j1 at h0'
  refine zB ?_
  refine zA ?_
  refine ops H' ?_
  refine zE ?_
  refine zN ?_
  obtain rfl:=zso h0'
  exact zO H' rfl rfl
end Go.TV.KFnExactFileLog
