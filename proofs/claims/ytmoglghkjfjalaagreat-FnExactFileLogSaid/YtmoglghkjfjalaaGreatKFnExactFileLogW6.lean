/- Walks. -/
import Derived.Test.YtmoglghkjfjalaaGreatKFnExactFileLogE
import Derived.Test.YtmoglghkjfjalaaGreatKFnExactFileLogW4
import Derived.Test.YtmoglghkjfjalaaGreatKFnExactFileLogW5
set_option linter.unusedVariables false
set_option linter.unusedSimpArgs false
set_option maxHeartbeats 8000000
set_option maxRecDepth 100000
namespace Go.TV.KFnExactFileLog
attribute [local irreducible] anyV wpV opsV Does thenV blockV RetL quV seqV
open Go.Proofs.Tryz Go.TV.F
theorem W_impl_touched (list_:List T_impl_Commit) (c:Int) (r':(List Int)) (h0':impl_touched list_ c=some r'):Fn X 61 [.one (.list false 3 (List.map (zC false) list_)),.one (.sc (.int .i64 c))] [.one (.list true 1 (List.map (rK .i64) r'))] []:=by
 have H':=And.intro t3 (And.intro t24 (And.intro t40 (And.intro t41 (And.intro t43 (And.intro qI (And.intro zZ (qK)))))))
 unfold impl_touched at h0'
 refine Fn.start (fn:=f61) (N:=61) (res:=[.tmp 4]) rfl rfl rfl rfl rfl (by simp) ?_
 refine zU H' ?_
 refine zB ?_
 refine zA ?_
 refine ops H' ?_
 refine zE ?_
 refine zB ?_
 refine zA ?_
 refine ops H' ?_
 refine zE ?_
 refine zV (fun e'=>∃ out_,impl_touched_j1 out_=some r'∧e'=⟨61,2,3,[(5,.pl (.one (.ref 2 [])))],[(2,.list true 1 (List.map (rK .i64) out_))]⟩) ?_ ?_
 ·refine zB ?_
  refine zA ?_
  refine ops H' ?_
  refine zE ?_
  obtain ⟨p,hl',h0'⟩:=zbi h0'
  refine zI ?_
  refine zS (fun s' e'=>∃ x10 out__1,s'=(x10,out__1)∧e'=⟨61,2,3,[(0,.pl (.one (.v (.list false 3 (List.map (zC false) list_))))),(1,.pl (.one (.v (.sc (.int .i64 c))))),(5,.pl (.one (.ref 2 []))),(10,.pl (.one (.v (.sc (.int .i64 x10)))))],[(2,.list true 1 (List.map (rK .i64) out__1))]⟩) hl' (shd [0,1,5,10] [(3,2)] 3 ⟨_,_,rfl,rfl⟩) ?_
  rintro s' y1' e' h1' ⟨x10,out__1,rfl,rfl⟩
  replace h1':impl_touched_l1 list_ c x10 out__1=some y1':=h1'
  unfold impl_touched_l1 at h1'
  refine zB ?_
  refine zA ?_
  refine ops H' ?_
  refine zE ?_
  refine zB ?_
  refine zH (fun hc'=>?_) (fun hc'=>?_)
  ·replace h1':=(ifT hc').symm.trans h1'
   refine zM ?_
   refine zV (fun e'=>∃ out__2,impl_touched_j2 x10 out__2=some y1'∧e'=⟨61,2,3,[(0,.pl (.one (.v (.list false 3 (List.map (zC false) list_))))),(1,.pl (.one (.v (.sc (.int .i64 c))))),(5,.pl (.one (.ref 2 []))),(10,.pl (.one (.v (.sc (.int .i64 x10)))))],[(2,.list true 1 (List.map (rK .i64) out__2))]⟩) ?_ ?_
   ·refine zI ?_
    refine zB ?_
    refine zA ?_
    refine ops H' ?_
    refine zE ?_
    refine zB ?_
    refine zA ?_
    obtain ⟨x,hv',h1'⟩:=zbi h1'
    have H':=And.intro (zP hv') H'
    refine ops H' ?_
    obtain ⟨b,gh1',h1'⟩:=zbi h1'
    refine qC 9 (fun e'=>e'=⟨61,2,3,[(0,.pl (.one (.v (.list false 3 (List.map (zC false) list_))))),(1,.pl (.one (.v (.sc (.int .i64 c))))),(5,.pl (.one (.ref 2 []))),(6,.pl (.one (.v (.sc (.int .i64 x10))))),(10,.pl (.one (.v (.sc (.int .i64 x10))))),(29,.pl (.one (.v (.sc (.bool b)))))],[(2,.list true 1 (List.map (rK .i64) out__1))]⟩) ?_ ?_
    ·simp only [List.take_succ_cons,List.take_zero]
     refine qE (fun hc'=>?_) (fun hc'=>?_)
     ·replace gh1':=(ifT hc').symm.trans gh1'
      refine ops H' ?_
      obtain ⟨x27,hy',gh1'⟩:=zbi gh1'
      refine zR H' (fun _=>[]) (W_impl_idAt _ _ _ hy') ?_
      refine ops H' ?_
      obtain rfl:=zso gh1'
      refine zG ?_
      exact ⟨rfl,shd [0,1,5,6,10,29] [(2,2)] 3 rfl⟩
     ·replace gh1':=(ifF hc').symm.trans gh1'
      refine ops H' ?_
      obtain rfl:=zso gh1'
      refine zG ?_
      exact ⟨rfl,shd [0,1,5,6,10,29] [(2,2)] 3 rfl⟩
    ·rintro e' rfl
     simp only [List.drop_succ_cons,List.drop_zero]
     refine ops H' ?_
     refine zE ?_
     refine zV (fun e'=>∃ is,impl_touched_j3 x10 out__1 is=some y1'∧e'=⟨61,2,3,[(0,.pl (.one (.v (.list false 3 (List.map (zC false) list_))))),(1,.pl (.one (.v (.sc (.int .i64 c))))),(5,.pl (.one (.ref 2 []))),(6,.pl (.one (.v (.sc (.int .i64 x10))))),(7,.pl (.one (.v (.sc (.bool is))))),(10,.pl (.one (.v (.sc (.int .i64 x10)))))],[(2,.list true 1 (List.map (rK .i64) out__1))]⟩) ?_ ?_
     ·refine zB ?_
      refine zA ?_
      obtain ⟨x_1,hv',h1'⟩:=zbi h1'
      have H':=And.intro (zP hv') H'
      refine ops H' ?_
      refine zE ?_
      obtain ⟨p_1,hl',h1'⟩:=zbi h1'
      refine zI ?_
      refine zS (fun s' e'=>∃ is_1 x36,s'=(is_1,x36)∧e'=⟨61,2,3,[(0,.pl (.one (.v (.list false 3 (List.map (zC false) list_))))),(1,.pl (.one (.v (.sc (.int .i64 c))))),(5,.pl (.one (.ref 2 []))),(6,.pl (.one (.v (.sc (.int .i64 x10))))),(7,.pl (.one (.v (.sc (.bool is_1))))),(10,.pl (.one (.v (.sc (.int .i64 x10))))),(34,.pl (.one (.v (.list false 1 (List.map (rK .i64) x_1.Parents))))),(35,.pl (.one (.v (.sc (.int .i64 (x_1.Parents.length:Int)))))),(36,.pl (.one (.v (.sc (.int .i64 x36)))))],[(2,.list true 1 (List.map (rK .i64) out__1))]⟩) hl' (shd [0,1,5,6,7,10,34,35,36] [(2,2)] 3 ⟨_,_,rfl,rfl⟩) ?_
      rintro s' y2' e' h2' ⟨is_1,x36,rfl,rfl⟩
      replace h2':impl_touched_l2 list_ c x10 x_1 is_1 x36=some y2':=h2'
      unfold impl_touched_l2 at h2'
      refine zB ?_
      refine zA ?_
      refine ops H' ?_
      refine zE ?_
      refine zB ?_
      refine zH (fun hc'=>?_) (fun hc'=>?_)
      ·replace h2':=(ifT hc').symm.trans h2'
       refine zM ?_
       refine zB ?_
       refine zI ?_
       refine zB ?_
       refine zA ?_
       obtain ⟨x_2,hv',h2'⟩:=zbi h2'
       have H':=And.intro (zP hv') H'
       refine ops H' ?_
       refine zE ?_
       refine regQ ?_
       refine ops H' ?_
       obtain ⟨b_1,gh2',h2'⟩:=zbi h2'
       refine quV_cut 11 (fun e'=>e'=⟨61,2,3,[(0,.pl (.one (.v (.list false 3 (List.map (zC false) list_))))),(1,.pl (.one (.v (.sc (.int .i64 c))))),(5,.pl (.one (.ref 2 []))),(6,.pl (.one (.v (.sc (.int .i64 x10))))),(10,.pl (.one (.v (.sc (.int .i64 x10))))),(34,.pl (.one (.v (.list false 1 (List.map (rK .i64) x_1.Parents))))),(35,.pl (.one (.v (.sc (.int .i64 (x_1.Parents.length:Int)))))),(36,.pl (.one (.v (.sc (.int .i64 x36))))),(52,.pl (.one (.v (.sc (.bool b_1)))))],[(2,.list true 1 (List.map (rK .i64) out__1))]⟩) ?_ ?_
       ·simp only [List.take_succ_cons,List.take_zero]
        refine quV_sp (fun hc'=>?_) (fun hc'=>?_)
        ·replace gh2':=(ifF hc').symm.trans gh2'
         obtain ⟨x_3,hv',gh2'⟩:=zbi gh2'
         have H':=And.intro (zP hv') H'
         obtain ⟨x_4,hv',gh2'⟩:=zbi gh2'
         have H':=And.intro (zP hv') H'
         refine ops H' ?_
         obtain ⟨x51,hy',gh2'⟩:=zbi gh2'
         refine callGQ H' (W_impl_unlike _ _ _ _ hy') ?_
         refine ops H' ?_
         obtain rfl:=zso gh2'
         refine qU ?_
         exact ⟨rfl,shd [0,1,5,6,10,34,35,36,52] [(2,2)] 3 rfl⟩
        ·replace gh2':=(ifT hc').symm.trans gh2'
         refine ops H' ?_
         obtain rfl:=zso gh2'
         refine qU ?_
         exact ⟨rfl,shd [0,1,5,6,10,34,35,36,52] [(2,2)] 3 rfl⟩
       ·rintro e' rfl
        simp only [List.drop_succ_cons,List.drop_zero]
        refine ops H' ?_
        refine quN ?_
        refine zA ?_
        refine ops H' ?_
        refine zE ?_
        obtain rfl:=zso h2'
        exact shd [0,1,5,6,7,10,34,35,36] [(2,2)] 3 ⟨_,rfl,_,_,rfl,rfl⟩
      ·replace h2':=(ifF hc').symm.trans h2'
       refine qJ ?_
       obtain rfl:=zso h2'
       refine ⟨_,rfl,fun hr'=>?_⟩
       subst hr'
       exact shd [0,1,5,6,7,10] [(2,2)] 3 ⟨_,h1',rfl⟩
     ·rintro e' ⟨is,h1',rfl⟩
      unfold impl_touched_j3 at h1'
      refine zB ?_
      refine zA ?_
      refine ops H' ?_
      refine zE ?_
      refine zH (fun hc'=>?_) (fun hc'=>?_)
      ·replace h1':=(ifT hc').symm.trans h1'
       refine zA ?_
       obtain ⟨l,hv',h1'⟩:=zbi h1'
       have H':=And.intro (app1_f hv') H'
       refine ops H' ?_
       refine zE ?_
       exact shd [0,1,5,10] [(2,2)] 3 ⟨_,h1',rfl⟩
      ·replace h1':=(ifF hc').symm.trans h1'
       refine zM ?_
       exact shd [0,1,5,10] [(2,2)] 3 ⟨_,h1',rfl⟩
   ·rintro e' ⟨out__2,h1',rfl⟩
    unfold impl_touched_j2 at h1'
    refine zA ?_
    refine ops H' ?_
    refine zE ?_
    obtain rfl:=zso h1'
    exact shd [0,1,5,10] [(2,2)] 3 ⟨_,rfl,_,_,rfl,rfl⟩
  ·replace h1':=(ifF hc').symm.trans h1'
   refine qJ ?_
   obtain rfl:=zso h1'
   refine ⟨_,rfl,fun hr'=>?_⟩
   subst hr'
   exact shd [5] [(2,2)] 3 ⟨_,h0',rfl⟩
 ·rintro e' ⟨out_,h0',rfl⟩
  unfold impl_touched_j1 at h0'
  refine zB ?_
  refine zA ?_
  refine ops H' ?_
  refine zE ?_
  refine zN ?_
  obtain rfl:=zso h0'
  exact zO H' rfl rfl
theorem W_slices_Index_int_int (s:List Int) (v:Int) (r':Int) (h0':slices_Index_int_int s v=some r'):Fn X 155 [.one (.list false 1 (List.map (rK .i64) s)),.one (.sc (.int .i64 v))] [.one (.sc (.int .i64 r'))] []:=by
 have H':=And.intro t3 (And.intro t40 (qK))
 unfold slices_Index_int_int at h0'
 refine Fn.start (fn:=f155) (N:=19) (res:=[.tmp 4]) rfl rfl rfl rfl rfl (by simp) ?_
 refine zU H' ?_
 refine zB ?_
 refine zA ?_
 refine ops H' ?_
 refine zE ?_
 refine zV (fun e'=>slices_Index_int_int_j1=some r'∧e'=⟨19,2,2,[],[]⟩) ?_ ?_
 ·refine zB ?_
  refine zA ?_
  refine ops H' ?_
  refine zE ?_
  obtain ⟨p,hl',h0'⟩:=zbi h0'
  refine zI ?_
  refine zS (fun x8 e'=>e'=⟨19,2,2,[(0,.pl (.one (.v (.list false 1 (List.map (rK .i64) s))))),(1,.pl (.one (.v (.sc (.int .i64 v))))),(7,.pl (.one (.v (.sc (.int .i64 (s.length:Int)))))),(8,.pl (.one (.v (.sc (.int .i64 x8)))))],[]⟩) hl' (shd [0,1,7,8] [] 2 rfl) ?_
  rintro x8 y1' e' h1' rfl
  replace h1':slices_Index_int_int_l1 s v x8=some y1':=h1'
  unfold slices_Index_int_int_l1 at h1'
  refine zB ?_
  refine zA ?_
  refine ops H' ?_
  refine zE ?_
  refine zB ?_
  refine zH (fun hc'=>?_) (fun hc'=>?_)
  ·replace h1':=(ifT hc').symm.trans h1'
   refine zM ?_
   refine zB ?_
   refine zI ?_
   refine zB ?_
   refine zA ?_
   refine ops H' ?_
   refine zE ?_
   refine zB ?_
   refine zA ?_
   obtain ⟨x,hv',h1'⟩:=zbi h1'
   have H':=And.intro (zP hv') H'
   refine ops H' ?_
   refine zE ?_
   refine zH (fun hc'=>?_) (fun hc'=>?_)
   ·replace h1':=(ifT hc').symm.trans h1'
    refine zB ?_
    refine zA ?_
    refine ops H' ?_
    refine zE ?_
    refine zN ?_
    obtain rfl:=zso h1'
    refine ⟨_,rfl,fun hr'=>?_⟩
    subst hr'
    obtain rfl:=zso h0'
    exact zO H' rfl rfl
   ·replace h1':=(ifF hc').symm.trans h1'
    refine zM ?_
    refine zA ?_
    refine ops H' ?_
    refine zE ?_
    obtain rfl:=zso h1'
    exact shd [0,1,7,8] [] 2 ⟨_,rfl,rfl⟩
  ·replace h1':=(ifF hc').symm.trans h1'
   refine qJ ?_
   obtain rfl:=zso h1'
   refine ⟨_,rfl,fun hr'=>?_⟩
   subst hr'
   exact shd [] [] 2 ⟨h0',rfl⟩
 ·rintro e' ⟨h0',rfl⟩
  unfold slices_Index_int_int_j1 at h0'
  refine zB ?_
  refine zA ?_
  refine ops H' ?_
  refine zE ?_
  refine zN ?_
  obtain rfl:=zso h0'
  exact zO H' rfl rfl
theorem W_slices_Contains_int_int (s:List Int) (v:Int) (r':Bool) (h0':slices_Contains_int_int s v=some r'):Fn X 60 [.one (.list false 1 (List.map (rK .i64) s)),.one (.sc (.int .i64 v))] [.one (.sc (.bool r'))] []:=by
 have H':=And.intro t3 (qK)
 unfold slices_Contains_int_int at h0'
 refine Fn.start (fn:=f60) (N:=9) (res:=[.tmp 4]) rfl rfl rfl rfl rfl (by simp) ?_
 refine zU H' ?_
 refine zB ?_
 refine zA ?_
 refine ops H' ?_
 refine zE ?_
 refine zB ?_
 refine zA ?_
 refine ops H' ?_
 obtain ⟨x7,hy',h0'⟩:=zbi h0'
 refine zR H' (fun _=>[]) (W_slices_Index_int_int _ _ _ hy') ?_
 refine ops H' ?_
 refine zE ?_
 refine zN ?_
 obtain rfl:=zso h0'
 exact zO H' rfl rfl
theorem W_impl_FileLog (s:T_impl_Store) (path:ByteArray) (c:Int) (r':(List Int)×Int) (h0':impl_FileLog s path c=some r'):Fn X 13 [.agg [.list false 3 (List.map (zC false) s.Commits),.list false 2 (List.map (zD false) s.Files)],.one (.sc (.string path)),.one (.sc (.int .i64 c))] [.one (.list true 1 (List.map (rK .i64) r'.1)),.one (.sc (.int .i64 r'.2))] []:=by
 have H':=And.intro t3 (And.intro t24 (And.intro t27 (And.intro t40 (And.intro t45 (And.intro R_LLi64 (And.intro qT (And.intro qL (And.intro qI (And.intro zZ (And.intro qV (qK)))))))))))
 unfold impl_FileLog at h0'
 refine Fn.start (fn:=f13) (N:=47) (res:=[.tmp 6,.tmp 7]) rfl rfl rfl rfl rfl (by simp) ?_
 refine zU H' ?_
 refine zB ?_
 refine zA ?_
 refine ops H' ?_
 refine zE ?_
 refine zB ?_
 refine zA ?_
 refine ops H' ?_
 obtain ⟨x17,hy',h0'⟩:=zbi h0'
 refine zR H' (fun _=>[]) (W_impl_nameAt _ _ _ _ hy') ?_
 refine ops H' ?_
 refine zE ?_
 refine zB ?_
 refine zB ?_
 refine zA ?_
 refine ops H' ?_
 refine zE ?_
 refine zH (fun hc'=>?_) (fun hc'=>?_)
 ·replace h0':=(ifT hc').symm.trans h0'
  refine zB ?_
  refine zA ?_
  refine ops H' ?_
  refine zE ?_
  refine zN ?_
  obtain rfl:=zso h0'
  exact zO H' rfl rfl
 ·replace h0':=(ifF hc').symm.trans h0'
  refine zM ?_
  refine zB ?_
  refine zA ?_
  refine ops H' ?_
  refine zE ?_
  refine zV (fun e'=>∃ out_,impl_FileLog_j1 out_=some r'∧e'=⟨47,4,5,[(10,.pl (.one (.ref 4 [])))],[(4,.list true 1 (List.map (rK .i64) out_))]⟩) ?_ ?_
  ·refine zB ?_
   refine wpV_frz H' 4 ?_
   obtain ⟨x25,hy_x25,h0'⟩:=zbi h0'
   obtain ⟨x26,hy_x26,h0'⟩:=zbi h0'
   obtain ⟨x28,hy_x28,h0'⟩:=zbi h0'
   refine wpV_J (fun e'=>e'=⟨47,4,7,[(3,.pl (.one (.v (.box false [.list false 3 (List.map (zC false) s.Commits),.list false 2 (List.map (zD false) s.Files)])))),(8,.pl (.one (.ref 4 []))),(10,.pl (.one (.ref 5 []))),(28,.pl (.one (.ref 6 []))),(29,.pl (.one (.v (.sc (.int .i64 (x28.length:Int)))))),(30,.pl (.one (.v (.sc (.int .i64 0)))))],[(4,.box true [.sc (.string x17.1.Path),.sc (.int .i64 x17.1.Id),.sc (.int .i64 x17.1.Version)]),(5,.list true 1 (List.map (rK .i64) [])),(6,.list true 1 (List.map (rK .i64) x28))]⟩) ?_ ?_
   ·refine regAnyF [(1,24,.pl (.one (.v (.list false 3 (List.map (zC false) s.Commits))))),(6,29,.pl (.one (.v (.sc (.int .i64 (x28.length:Int))))))] ?_
    refine (?_:anyF X ?o0 _ _ ?P0 _)
    have d0':anyF X ?o0 [0,1,2,3,4,5,7] [(6,29,.pl (.one (.v (.sc (.int .i64 (x28.length:Int))))))] ?P0 ⟨47,4,7,[(3,.pl (.one (.v (.box false [.list false 3 (List.map (zC false) s.Commits),.list false 2 (List.map (zD false) s.Files)])))),(8,.pl (.one (.ref 4 []))),(10,.pl (.one (.ref 5 []))),(28,.pl (.one (.ref 6 []))),(30,.pl (.one (.v (.sc (.int .i64 0)))))],[(4,.box true [.sc (.string x17.1.Path),.sc (.int .i64 x17.1.Id),.sc (.int .i64 x17.1.Version)]),(5,.list true 1 (List.map (rK .i64) [])),(6,.list true 1 (List.map (rK .i64) x28))]⟩:=by
     refine fend (e2:=⟨47,4,7,[(29,.pl (.one (.v (.sc (.int .i64 (x28.length:Int)))))),(3,.pl (.one (.v (.box false [.list false 3 (List.map (zC false) s.Commits),.list false 2 (List.map (zD false) s.Files)])))),(8,.pl (.one (.ref 4 []))),(10,.pl (.one (.ref 5 []))),(28,.pl (.one (.ref 6 []))),(30,.pl (.one (.v (.sc (.int .i64 0)))))],[(4,.box true [.sc (.string x17.1.Path),.sc (.int .i64 x17.1.Id),.sc (.int .i64 x17.1.Version)]),(5,.list true 1 (List.map (rK .i64) [])),(6,.list true 1 (List.map (rK .i64) x28))]⟩) [6] [.q 6 29 (.pl (.one (.v (.sc (.int .i64 (x28.length:Int)))))) []] [(6,29)] [(6,true,[],[])] ⟨?_,trivial⟩ ⟨rfl,shd [3,8,10,28,29,30] [(4,4),(5,5),(6,6)] 7 rfl⟩
     ·refine qB 0 ⟨47,4,7,[(3,.pl (.one (.v (.box false [.list false 3 (List.map (zC false) s.Commits),.list false 2 (List.map (zD false) s.Files)])))),(8,.pl (.one (.ref 4 []))),(10,.pl (.one (.ref 5 []))),(28,.pl (.one (.ref 6 []))),(30,.pl (.one (.v (.sc (.int .i64 0)))))],[(4,.box true [.sc (.string x17.1.Path),.sc (.int .i64 x17.1.Id),.sc (.int .i64 x17.1.Version)]),(5,.list true 1 (List.map (rK .i64) [])),(6,.list true 1 (List.map (rK .i64) x28))]⟩ ?_
      refine ops H' ?_
      refine zG ⟨rfl,shd [29,3,8,10,28,30] [(4,4),(5,5),(6,6)] 7 rfl⟩
    have d1':anyF X ?o0 [0,2,3,4,7] [(1,24,.pl (.one (.v (.list false 3 (List.map (zC false) s.Commits))))),(6,29,.pl (.one (.v (.sc (.int .i64 (x28.length:Int))))))] ?P0 ⟨47,4,7,[(3,.pl (.one (.v (.box false [.list false 3 (List.map (zC false) s.Commits),.list false 2 (List.map (zD false) s.Files)])))),(8,.pl (.one (.ref 4 []))),(10,.pl (.one (.ref 5 []))),(23,.pl (.one (.ba [.list false 3 (List.map (zC false) s.Commits),.list false 2 (List.map (zD false) s.Files)]))),(26,.pl (.one (.ref 6 []))),(27,.pl (.one (.v (.sc (.int .i64 c))))),(30,.pl (.one (.v (.sc (.int .i64 0)))))],[(4,.box true [.sc (.string x17.1.Path),.sc (.int .i64 x17.1.Id),.sc (.int .i64 x17.1.Version)]),(5,.list true 1 (List.map (rK .i64) [])),(6,.list true 1 (List.map (rK .i64) x26))]⟩:=by
     refine fnode [1] [.q 1 24 (.pl (.one (.v (.list false 3 (List.map (zC false) s.Commits))))) [],.m 5 [1] [0,1,2,3,4,5,7] [(6,29,.pl (.one (.v (.sc (.int .i64 (x28.length:Int))))))]] [(1,24),(6,29)] [(1,true,[],[]),(5,false,[1],[0,1,2,3,4,5,7])] ⟨?_,?_,trivial⟩
     ·refine qB 0 ⟨47,4,7,[(3,.pl (.one (.v (.box false [.list false 3 (List.map (zC false) s.Commits),.list false 2 (List.map (zD false) s.Files)])))),(8,.pl (.one (.ref 4 []))),(10,.pl (.one (.ref 5 []))),(23,.pl (.one (.ba [.list false 3 (List.map (zC false) s.Commits),.list false 2 (List.map (zD false) s.Files)]))),(26,.pl (.one (.ref 6 []))),(27,.pl (.one (.v (.sc (.int .i64 c))))),(30,.pl (.one (.v (.sc (.int .i64 0)))))],[(4,.box true [.sc (.string x17.1.Path),.sc (.int .i64 x17.1.Id),.sc (.int .i64 x17.1.Version)]),(5,.list true 1 (List.map (rK .i64) [])),(6,.list true 1 (List.map (rK .i64) x26))]⟩ ?_
      refine ops H' ?_
      refine zG ⟨rfl,shd [24,3,8,10,23,26,27,30] [(4,4),(5,5),(6,6)] 7 rfl⟩
     ·refine obMx ⟨47,4,7,[(24,.pl (.one (.v (.list false 3 (List.map (zC false) s.Commits))))),(3,.pl (.one (.v (.box false [.list false 3 (List.map (zC false) s.Commits),.list false 2 (List.map (zD false) s.Files)])))),(8,.pl (.one (.ref 4 []))),(10,.pl (.one (.ref 5 []))),(23,.pl (.one (.ba [.list false 3 (List.map (zC false) s.Commits),.list false 2 (List.map (zD false) s.Files)]))),(26,.pl (.one (.ref 6 []))),(27,.pl (.one (.v (.sc (.int .i64 c))))),(30,.pl (.one (.v (.sc (.int .i64 0)))))],[(4,.box true [.sc (.string x17.1.Path),.sc (.int .i64 x17.1.Id),.sc (.int .i64 x17.1.Version)]),(5,.list true 1 (List.map (rK .i64) [])),(6,.list true 1 (List.map (rK .i64) x26))]⟩ ?_
      refine zR H' (fun _=>[]) (W_impl_LogOf _ _ _ _ hy_x28) ?_
      refine zG ⟨rfl,.inl ⟨rfl,?_⟩⟩
      exact qN [3,8,10,28,30] [(4,4),(5,5),(7,6)] 7 d0'
    have d2':anyF X ?o0 [0,2,4,7] [(1,24,.pl (.one (.v (.list false 3 (List.map (zC false) s.Commits))))),(6,29,.pl (.one (.v (.sc (.int .i64 (x28.length:Int))))))] ?P0 ⟨47,4,7,[(3,.pl (.one (.v (.box false [.list false 3 (List.map (zC false) s.Commits),.list false 2 (List.map (zD false) s.Files)])))),(8,.pl (.one (.ref 4 []))),(10,.pl (.one (.ref 5 []))),(23,.pl (.one (.ba [.list false 3 (List.map (zC false) s.Commits),.list false 2 (List.map (zD false) s.Files)]))),(25,.pl (.one (.ref 6 []))),(27,.pl (.one (.v (.sc (.int .i64 c))))),(30,.pl (.one (.v (.sc (.int .i64 0)))))],[(4,.box true [.sc (.string x17.1.Path),.sc (.int .i64 x17.1.Id),.sc (.int .i64 x17.1.Version)]),(5,.list true 1 (List.map (rK .i64) [])),(6,.list true 1 (List.map (rL false 1 (rL false 1 (rK .i64))) x25))]⟩:=by
     refine fnode [1] [.q 1 24 (.pl (.one (.v (.list false 3 (List.map (zC false) s.Commits))))) [],.m 3 [] [0,2,3,4,7] [(1,24,.pl (.one (.v (.list false 3 (List.map (zC false) s.Commits))))),(6,29,.pl (.one (.v (.sc (.int .i64 (x28.length:Int))))))]] [(1,24),(6,29)] [(1,true,[],[]),(3,false,[],[0,2,3,4,7])] ⟨?_,?_,trivial⟩
     ·refine qB 0 ⟨47,4,7,[(3,.pl (.one (.v (.box false [.list false 3 (List.map (zC false) s.Commits),.list false 2 (List.map (zD false) s.Files)])))),(8,.pl (.one (.ref 4 []))),(10,.pl (.one (.ref 5 []))),(23,.pl (.one (.ba [.list false 3 (List.map (zC false) s.Commits),.list false 2 (List.map (zD false) s.Files)]))),(25,.pl (.one (.ref 6 []))),(27,.pl (.one (.v (.sc (.int .i64 c))))),(30,.pl (.one (.v (.sc (.int .i64 0)))))],[(4,.box true [.sc (.string x17.1.Path),.sc (.int .i64 x17.1.Id),.sc (.int .i64 x17.1.Version)]),(5,.list true 1 (List.map (rK .i64) [])),(6,.list true 1 (List.map (rL false 1 (rL false 1 (rK .i64))) x25))]⟩ ?_
      refine ops H' ?_
      refine zG ⟨rfl,shd [24,3,8,10,23,25,27,30] [(4,4),(5,5),(6,6)] 7 rfl⟩
     ·refine obMx ⟨47,4,7,[(3,.pl (.one (.v (.box false [.list false 3 (List.map (zC false) s.Commits),.list false 2 (List.map (zD false) s.Files)])))),(8,.pl (.one (.ref 4 []))),(10,.pl (.one (.ref 5 []))),(23,.pl (.one (.ba [.list false 3 (List.map (zC false) s.Commits),.list false 2 (List.map (zD false) s.Files)]))),(25,.pl (.one (.ref 6 []))),(27,.pl (.one (.v (.sc (.int .i64 c))))),(30,.pl (.one (.v (.sc (.int .i64 0)))))],[(4,.box true [.sc (.string x17.1.Path),.sc (.int .i64 x17.1.Id),.sc (.int .i64 x17.1.Version)]),(5,.list true 1 (List.map (rK .i64) [])),(6,.list true 1 (List.map (rL false 1 (rL false 1 (rK .i64))) x25))]⟩ ?_
      refine zR H' (fun _=>[]) (W_impl_sizesOf _ _ hy_x26) ?_
      refine zG ⟨rfl,.inl ⟨rfl,?_⟩⟩
      exact qN [3,8,10,23,26,27,30] [(4,4),(5,5),(7,6)] 7 d1'
    have d3':anyF X ?o0 [0,4,7] [(1,24,.pl (.one (.v (.list false 3 (List.map (zC false) s.Commits))))),(6,29,.pl (.one (.v (.sc (.int .i64 (x28.length:Int))))))] ?P0 ⟨47,4,6,[(3,.pl (.one (.v (.box false [.list false 3 (List.map (zC false) s.Commits),.list false 2 (List.map (zD false) s.Files)])))),(8,.pl (.one (.ref 4 []))),(10,.pl (.one (.ref 5 []))),(23,.pl (.one (.ba [.list false 3 (List.map (zC false) s.Commits),.list false 2 (List.map (zD false) s.Files)]))),(27,.pl (.one (.v (.sc (.int .i64 c))))),(30,.pl (.one (.v (.sc (.int .i64 0)))))],[(4,.box true [.sc (.string x17.1.Path),.sc (.int .i64 x17.1.Id),.sc (.int .i64 x17.1.Version)]),(5,.list true 1 (List.map (rK .i64) []))]⟩:=by
     refine fnode [1] [.q 1 24 (.pl (.one (.v (.list false 3 (List.map (zC false) s.Commits))))) [],.m 2 [] [0,2,4,7] [(1,24,.pl (.one (.v (.list false 3 (List.map (zC false) s.Commits))))),(6,29,.pl (.one (.v (.sc (.int .i64 (x28.length:Int))))))]] [(1,24),(6,29)] [(1,true,[],[]),(2,false,[],[0,2,4,7])] ⟨?_,?_,trivial⟩
     ·refine qB 0 ⟨47,4,6,[(3,.pl (.one (.v (.box false [.list false 3 (List.map (zC false) s.Commits),.list false 2 (List.map (zD false) s.Files)])))),(8,.pl (.one (.ref 4 []))),(10,.pl (.one (.ref 5 []))),(23,.pl (.one (.ba [.list false 3 (List.map (zC false) s.Commits),.list false 2 (List.map (zD false) s.Files)]))),(27,.pl (.one (.v (.sc (.int .i64 c))))),(30,.pl (.one (.v (.sc (.int .i64 0)))))],[(4,.box true [.sc (.string x17.1.Path),.sc (.int .i64 x17.1.Id),.sc (.int .i64 x17.1.Version)]),(5,.list true 1 (List.map (rK .i64) []))]⟩ ?_
      refine ops H' ?_
      refine zG ⟨rfl,shd [24,3,8,10,23,27,30] [(4,4),(5,5)] 6 rfl⟩
     ·refine obMx ⟨47,4,6,[(3,.pl (.one (.v (.box false [.list false 3 (List.map (zC false) s.Commits),.list false 2 (List.map (zD false) s.Files)])))),(8,.pl (.one (.ref 4 []))),(10,.pl (.one (.ref 5 []))),(23,.pl (.one (.ba [.list false 3 (List.map (zC false) s.Commits),.list false 2 (List.map (zD false) s.Files)]))),(27,.pl (.one (.v (.sc (.int .i64 c))))),(30,.pl (.one (.v (.sc (.int .i64 0)))))],[(4,.box true [.sc (.string x17.1.Path),.sc (.int .i64 x17.1.Id),.sc (.int .i64 x17.1.Version)]),(5,.list true 1 (List.map (rK .i64) []))]⟩ ?_
      refine callGD H' (fun _=>[]) (W_impl_Store_graphs _ _ hy_x25) ?_
      refine zG ⟨rfl,.inl ⟨rfl,?_⟩⟩
      exact qN [3,8,10,23,25,27,30] [(4,4),(5,5),(6,6)] 7 d2'
    refine fpure H' 0 [0] [(1,24),(6,29)] ?_
    refine fpure H' 4 [0,4] [(1,24),(6,29)] ?_
    refine fpure H' 7 [0,4,7] [(1,24),(6,29)] ?_
    exact qN [3,8,10,23,27,30] [(10,4),(11,5)] 6 d3'
   ·rintro e' rfl
    refine contN ?_
    obtain ⟨p,hl',h0'⟩:=zbi h0'
    refine zI ?_
    refine zS (fun s' e'=>∃ x30 out__1,s'=(x30,out__1)∧e'=⟨47,4,7,[(3,.pl (.one (.v (.box false [.list false 3 (List.map (zC false) s.Commits),.list false 2 (List.map (zD false) s.Files)])))),(8,.pl (.one (.ref 4 []))),(10,.pl (.one (.ref 5 []))),(28,.pl (.one (.ref 6 []))),(29,.pl (.one (.v (.sc (.int .i64 (x28.length:Int)))))),(30,.pl (.one (.v (.sc (.int .i64 x30)))))],[(4,.box true [.sc (.string x17.1.Path),.sc (.int .i64 x17.1.Id),.sc (.int .i64 x17.1.Version)]),(5,.list true 1 (List.map (rK .i64) out__1)),(6,.list true 1 (List.map (rK .i64) x28))]⟩) hl' (shd [3,8,10,28,29,30] [(4,4),(5,5),(6,6)] 7 ⟨_,_,rfl,rfl⟩) ?_
    rintro s' y1' e' h1' ⟨x30,out__1,rfl,rfl⟩
    replace h1':impl_FileLog_l1 s x17 x28 x30 out__1=some y1':=h1'
    unfold impl_FileLog_l1 at h1'
    refine zB ?_
    refine zA ?_
    refine ops H' ?_
    refine zE ?_
    refine zB ?_
    refine zH (fun hc'=>?_) (fun hc'=>?_)
    ·replace h1':=(ifT hc').symm.trans h1'
     refine zM ?_
     refine zB ?_
     refine zI ?_
     refine zB ?_
     refine zA ?_
     obtain ⟨x,hv',h1'⟩:=zbi h1'
     have H':=And.intro (zP hv') H'
     refine ops H' ?_
     refine zE ?_
     refine zB ?_
     obtain ⟨x37,hy_x37,h1'⟩:=zbi h1'
     obtain ⟨x40,hy_x40,h1'⟩:=zbi h1'
     refine wpV_J (fun e'=>e'=⟨47,4,7,[(3,.pl (.one (.v (.box false [.list false 3 (List.map (zC false) s.Commits),.list false 2 (List.map (zD false) s.Files)])))),(8,.pl (.one (.ref 4 []))),(10,.pl (.one (.ref 5 []))),(12,.pl (.one (.v (.sc (.int .i64 x))))),(28,.pl (.one (.ref 6 []))),(29,.pl (.one (.v (.sc (.int .i64 (x28.length:Int)))))),(30,.pl (.one (.v (.sc (.int .i64 x30))))),(40,.pl (.one (.v (.sc (.bool x40)))))],[(4,.box true [.sc (.string x17.1.Path),.sc (.int .i64 x17.1.Id),.sc (.int .i64 x17.1.Version)]),(5,.list true 1 (List.map (rK .i64) out__1)),(6,.list true 1 (List.map (rK .i64) x28))]⟩) ?_ ?_
     ·refine regAnyF [(1,35,.pl (.one (.v (.list false 3 (List.map (zC false) s.Commits))))),(5,39,.pl (.one (.v (.sc (.int .i64 x17.1.Id))))),(6,40,.pl (.one (.v (.sc (.bool x40)))))] ?_
      refine (?_:anyF X ?o1 _ _ ?P1 _)
      have d4':anyF X ?o1 [0,1,2,3,4] [(5,39,.pl (.one (.v (.sc (.int .i64 x17.1.Id))))),(6,40,.pl (.one (.v (.sc (.bool x40)))))] ?P1 ⟨47,4,8,[(3,.pl (.one (.v (.box false [.list false 3 (List.map (zC false) s.Commits),.list false 2 (List.map (zD false) s.Files)])))),(8,.pl (.one (.ref 4 []))),(10,.pl (.one (.ref 5 []))),(12,.pl (.one (.v (.sc (.int .i64 x))))),(28,.pl (.one (.ref 6 []))),(29,.pl (.one (.v (.sc (.int .i64 (x28.length:Int)))))),(30,.pl (.one (.v (.sc (.int .i64 x30))))),(37,.pl (.one (.ref 7 []))),(38,.pl (.one (.addr 4 [] 0 0 1)))],[(4,.box true [.sc (.string x17.1.Path),.sc (.int .i64 x17.1.Id),.sc (.int .i64 x17.1.Version)]),(5,.list true 1 (List.map (rK .i64) out__1)),(6,.list true 1 (List.map (rK .i64) x28)),(7,.list true 1 (List.map (rK .i64) x37))]⟩:=by
       refine fend (e2:=⟨47,4,8,[(39,.pl (.one (.v (.sc (.int .i64 x17.1.Id))))),(40,.pl (.one (.v (.sc (.bool x40))))),(3,.pl (.one (.v (.box false [.list false 3 (List.map (zC false) s.Commits),.list false 2 (List.map (zD false) s.Files)])))),(8,.pl (.one (.ref 4 []))),(10,.pl (.one (.ref 5 []))),(12,.pl (.one (.v (.sc (.int .i64 x))))),(28,.pl (.one (.ref 6 []))),(29,.pl (.one (.v (.sc (.int .i64 (x28.length:Int)))))),(30,.pl (.one (.v (.sc (.int .i64 x30))))),(37,.pl (.one (.ref 7 []))),(38,.pl (.one (.addr 4 [] 0 0 1)))],[(4,.box true [.sc (.string x17.1.Path),.sc (.int .i64 x17.1.Id),.sc (.int .i64 x17.1.Version)]),(5,.list true 1 (List.map (rK .i64) out__1)),(6,.list true 1 (List.map (rK .i64) x28)),(7,.list true 1 (List.map (rK .i64) x37))]⟩) [5,6] [.q 5 39 (.pl (.one (.v (.sc (.int .i64 x17.1.Id))))) [],.q 6 40 (.pl (.one (.v (.sc (.bool x40))))) [5]] [(5,39),(6,40)] [(5,true,[],[]),(6,true,[5],[])] ⟨?_,?_,trivial⟩ ⟨rfl,shd [3,8,10,12,28,29,30,40] [(4,4),(5,5),(6,6)] 7 rfl⟩
       ·refine qB 0 ⟨47,4,8,[(3,.pl (.one (.v (.box false [.list false 3 (List.map (zC false) s.Commits),.list false 2 (List.map (zD false) s.Files)])))),(8,.pl (.one (.ref 4 []))),(10,.pl (.one (.ref 5 []))),(12,.pl (.one (.v (.sc (.int .i64 x))))),(28,.pl (.one (.ref 6 []))),(29,.pl (.one (.v (.sc (.int .i64 (x28.length:Int)))))),(30,.pl (.one (.v (.sc (.int .i64 x30))))),(37,.pl (.one (.ref 7 []))),(38,.pl (.one (.addr 4 [] 0 0 1)))],[(4,.box true [.sc (.string x17.1.Path),.sc (.int .i64 x17.1.Id),.sc (.int .i64 x17.1.Version)]),(5,.list true 1 (List.map (rK .i64) out__1)),(6,.list true 1 (List.map (rK .i64) x28)),(7,.list true 1 (List.map (rK .i64) x37))]⟩ ?_
        refine ops H' ?_
        refine zG ⟨rfl,shd [39,3,8,10,12,28,29,30,37,38] [(4,4),(5,5),(6,6),(7,7)] 8 rfl⟩
       ·refine qB 1 ⟨47,4,8,[(39,.pl (.one (.v (.sc (.int .i64 x17.1.Id))))),(3,.pl (.one (.v (.box false [.list false 3 (List.map (zC false) s.Commits),.list false 2 (List.map (zD false) s.Files)])))),(8,.pl (.one (.ref 4 []))),(10,.pl (.one (.ref 5 []))),(12,.pl (.one (.v (.sc (.int .i64 x))))),(28,.pl (.one (.ref 6 []))),(29,.pl (.one (.v (.sc (.int .i64 (x28.length:Int)))))),(30,.pl (.one (.v (.sc (.int .i64 x30))))),(37,.pl (.one (.ref 7 []))),(38,.pl (.one (.addr 4 [] 0 0 1)))],[(4,.box true [.sc (.string x17.1.Path),.sc (.int .i64 x17.1.Id),.sc (.int .i64 x17.1.Version)]),(5,.list true 1 (List.map (rK .i64) out__1)),(6,.list true 1 (List.map (rK .i64) x28)),(7,.list true 1 (List.map (rK .i64) x37))]⟩ ?_
        refine zR H' (fun _=>[]) (W_slices_Contains_int_int _ _ _ hy_x40) ?_
        refine zG ⟨rfl,shd [40,3,8,10,12,28,29,30,37,38] [(4,4),(5,5),(6,6),(7,7)] 8 rfl⟩
      have d5':anyF X ?o1 [0,2,4] [(1,35,.pl (.one (.v (.list false 3 (List.map (zC false) s.Commits))))),(5,39,.pl (.one (.v (.sc (.int .i64 x17.1.Id))))),(6,40,.pl (.one (.v (.sc (.bool x40)))))] ?P1 ⟨47,4,7,[(3,.pl (.one (.v (.box false [.list false 3 (List.map (zC false) s.Commits),.list false 2 (List.map (zD false) s.Files)])))),(8,.pl (.one (.ref 4 []))),(10,.pl (.one (.ref 5 []))),(12,.pl (.one (.v (.sc (.int .i64 x))))),(28,.pl (.one (.ref 6 []))),(29,.pl (.one (.v (.sc (.int .i64 (x28.length:Int)))))),(30,.pl (.one (.v (.sc (.int .i64 x30))))),(34,.pl (.one (.ba [.list false 3 (List.map (zC false) s.Commits),.list false 2 (List.map (zD false) s.Files)]))),(36,.pl (.one (.v (.sc (.int .i64 x))))),(38,.pl (.one (.addr 4 [] 0 0 1)))],[(4,.box true [.sc (.string x17.1.Path),.sc (.int .i64 x17.1.Id),.sc (.int .i64 x17.1.Version)]),(5,.list true 1 (List.map (rK .i64) out__1)),(6,.list true 1 (List.map (rK .i64) x28))]⟩:=by
       refine fnode [1,5] [.q 1 35 (.pl (.one (.v (.list false 3 (List.map (zC false) s.Commits))))) [],.q 5 39 (.pl (.one (.v (.sc (.int .i64 x17.1.Id))))) [],.m 3 [1] [0,1,2,3,4] [(5,39,.pl (.one (.v (.sc (.int .i64 x17.1.Id))))),(6,40,.pl (.one (.v (.sc (.bool x40)))))]] [(1,35),(5,39),(6,40)] [(1,true,[],[]),(5,true,[],[]),(3,false,[1],[0,1,2,3,4])] ⟨?_,?_,?_,trivial⟩
       ·refine qB 0 ⟨47,4,7,[(3,.pl (.one (.v (.box false [.list false 3 (List.map (zC false) s.Commits),.list false 2 (List.map (zD false) s.Files)])))),(8,.pl (.one (.ref 4 []))),(10,.pl (.one (.ref 5 []))),(12,.pl (.one (.v (.sc (.int .i64 x))))),(28,.pl (.one (.ref 6 []))),(29,.pl (.one (.v (.sc (.int .i64 (x28.length:Int)))))),(30,.pl (.one (.v (.sc (.int .i64 x30))))),(34,.pl (.one (.ba [.list false 3 (List.map (zC false) s.Commits),.list false 2 (List.map (zD false) s.Files)]))),(36,.pl (.one (.v (.sc (.int .i64 x))))),(38,.pl (.one (.addr 4 [] 0 0 1)))],[(4,.box true [.sc (.string x17.1.Path),.sc (.int .i64 x17.1.Id),.sc (.int .i64 x17.1.Version)]),(5,.list true 1 (List.map (rK .i64) out__1)),(6,.list true 1 (List.map (rK .i64) x28))]⟩ ?_
        refine ops H' ?_
        refine zG ⟨rfl,shd [35,3,8,10,12,28,29,30,34,36,38] [(4,4),(5,5),(6,6)] 7 rfl⟩
       ·refine qB 1 ⟨47,4,7,[(3,.pl (.one (.v (.box false [.list false 3 (List.map (zC false) s.Commits),.list false 2 (List.map (zD false) s.Files)])))),(8,.pl (.one (.ref 4 []))),(10,.pl (.one (.ref 5 []))),(12,.pl (.one (.v (.sc (.int .i64 x))))),(28,.pl (.one (.ref 6 []))),(29,.pl (.one (.v (.sc (.int .i64 (x28.length:Int)))))),(30,.pl (.one (.v (.sc (.int .i64 x30))))),(34,.pl (.one (.ba [.list false 3 (List.map (zC false) s.Commits),.list false 2 (List.map (zD false) s.Files)]))),(36,.pl (.one (.v (.sc (.int .i64 x))))),(38,.pl (.one (.addr 4 [] 0 0 1)))],[(4,.box true [.sc (.string x17.1.Path),.sc (.int .i64 x17.1.Id),.sc (.int .i64 x17.1.Version)]),(5,.list true 1 (List.map (rK .i64) out__1)),(6,.list true 1 (List.map (rK .i64) x28))]⟩ ?_
        refine ops H' ?_
        refine zG ⟨rfl,shd [39,3,8,10,12,28,29,30,34,36,38] [(4,4),(5,5),(6,6)] 7 rfl⟩
       ·refine obMx ⟨47,4,7,[(35,.pl (.one (.v (.list false 3 (List.map (zC false) s.Commits))))),(3,.pl (.one (.v (.box false [.list false 3 (List.map (zC false) s.Commits),.list false 2 (List.map (zD false) s.Files)])))),(8,.pl (.one (.ref 4 []))),(10,.pl (.one (.ref 5 []))),(12,.pl (.one (.v (.sc (.int .i64 x))))),(28,.pl (.one (.ref 6 []))),(29,.pl (.one (.v (.sc (.int .i64 (x28.length:Int)))))),(30,.pl (.one (.v (.sc (.int .i64 x30))))),(34,.pl (.one (.ba [.list false 3 (List.map (zC false) s.Commits),.list false 2 (List.map (zD false) s.Files)]))),(36,.pl (.one (.v (.sc (.int .i64 x))))),(38,.pl (.one (.addr 4 [] 0 0 1)))],[(4,.box true [.sc (.string x17.1.Path),.sc (.int .i64 x17.1.Id),.sc (.int .i64 x17.1.Version)]),(5,.list true 1 (List.map (rK .i64) out__1)),(6,.list true 1 (List.map (rK .i64) x28))]⟩ ?_
        refine zR H' (fun _=>[]) (W_impl_touched _ _ _ hy_x37) ?_
        refine zG ⟨rfl,.inl ⟨rfl,?_⟩⟩
        exact qN [3,8,10,12,28,29,30,37,38] [(4,4),(5,5),(6,6),(7,7)] 8 d4'
      refine fpure H' 0 [0] [(1,35),(5,39),(6,40)] ?_
      refine fpure H' 2 [0,2] [(1,35),(5,39),(6,40)] ?_
      refine fpure H' 4 [0,2,4] [(1,35),(5,39),(6,40)] ?_
      exact qN [3,8,10,12,28,29,30,34,36,38] [(4,4),(5,5),(6,6)] 7 d5'
     ·rintro e' rfl
      refine contN ?_
      refine zH (fun hc'=>?_) (fun hc'=>?_)
      ·replace h1':=(ifT hc').symm.trans h1'
       refine zA ?_
       obtain ⟨l,hv',h1'⟩:=zbi h1'
       have H':=And.intro (app1_f hv') H'
       refine ops H' ?_
       refine zE ?_
       refine zA ?_
       refine ops H' ?_
       refine zE ?_
       obtain rfl:=zso h1'
       exact shd [3,8,10,28,29,30] [(4,4),(5,5),(6,6)] 7 ⟨_,rfl,_,_,rfl,rfl⟩
      ·replace h1':=(ifF hc').symm.trans h1'
       refine zM ?_
       refine zA ?_
       refine ops H' ?_
       refine zE ?_
       obtain rfl:=zso h1'
       exact shd [3,8,10,28,29,30] [(4,4),(5,5),(6,6)] 7 ⟨_,rfl,_,_,rfl,rfl⟩
    ·replace h1':=(ifF hc').symm.trans h1'
     refine qJ ?_
     obtain rfl:=zso h1'
     refine ⟨_,rfl,fun hr'=>?_⟩
     subst hr'
     exact shd [10] [(5,4)] 5 ⟨_,h0',rfl⟩
  ·rintro e' ⟨out_,h0',rfl⟩
   unfold impl_FileLog_j1 at h0'
   refine zB ?_
   refine zA ?_
   refine ops H' ?_
   refine zE ?_
   refine zN ?_
   obtain rfl:=zso h0'
   exact zO H' rfl rfl
theorem W_laws_eqIntS (a:List Int) (b:List Int) (r':Bool) (h0':laws_eqIntS a b=some r'):Fn X 17 [.one (.list false 1 (List.map (rK .i64) a)),.one (.list false 1 (List.map (rK .i64) b))] [.one (.sc (.bool r'))] []:=by
 have H':=And.intro t3 (And.intro t40 (qK))
 unfold laws_eqIntS at h0'
 refine Fn.start (fn:=f17) (N:=26) (res:=[.tmp 4]) rfl rfl rfl rfl rfl (by simp) ?_
 refine zU H' ?_
 refine zB ?_
 refine zA ?_
 refine ops H' ?_
 refine zE ?_
 refine zB ?_
 refine zB ?_
 refine zA ?_
 refine ops H' ?_
 refine zE ?_
 refine zH (fun hc'=>?_) (fun hc'=>?_)
 ·replace h0':=(ifT hc').symm.trans h0'
  refine zB ?_
  refine zA ?_
  refine ops H' ?_
  refine zE ?_
  refine zN ?_
  obtain rfl:=zso h0'
  exact zO H' rfl rfl
 ·replace h0':=(ifF hc').symm.trans h0'
  refine zM ?_
  refine zV (fun e'=>laws_eqIntS_j1=some r'∧e'=⟨26,2,2,[],[]⟩) ?_ ?_
  ·refine zB ?_
   refine zA ?_
   refine ops H' ?_
   refine zE ?_
   obtain ⟨p,hl',h0'⟩:=zbi h0'
   refine zI ?_
   refine zS (fun i e'=>e'=⟨26,2,2,[(0,.pl (.one (.v (.list false 1 (List.map (rK .i64) a))))),(1,.pl (.one (.v (.list false 1 (List.map (rK .i64) b))))),(5,.pl (.one (.v (.sc (.int .i64 i)))))],[]⟩) hl' (shd [0,1,5] [] 2 rfl) ?_
   rintro i y1' e' h1' rfl
   replace h1':laws_eqIntS_l1 a b i=some y1':=h1'
   unfold laws_eqIntS_l1 at h1'
   refine zB ?_
   refine zB ?_
   refine zA ?_
   refine ops H' ?_
   refine zE ?_
   refine zH (fun hc'=>?_) (fun hc'=>?_)
   ·replace h1':=(ifT hc').symm.trans h1'
    refine zM ?_
    refine zB ?_
    refine zI ?_
    refine zB ?_
    refine regQ ?_
    obtain ⟨x,hv',h1'⟩:=zbi h1'
    have H':=And.intro (zP hv') H'
    obtain ⟨x_1,hv',h1'⟩:=zbi h1'
    have H':=And.intro (zP hv') H'
    refine ops H' ?_
    refine quN ?_
    refine zH (fun hc'=>?_) (fun hc'=>?_)
    ·replace h1':=(ifT hc').symm.trans h1'
     refine zB ?_
     refine zA ?_
     refine ops H' ?_
     refine zE ?_
     refine zN ?_
     obtain rfl:=zso h1'
     refine ⟨_,rfl,fun hr'=>?_⟩
     subst hr'
     obtain rfl:=zso h0'
     exact zO H' rfl rfl
    ·replace h1':=(ifF hc').symm.trans h1'
     refine zM ?_
     refine zA ?_
     refine ops H' ?_
     refine zE ?_
     obtain rfl:=zso h1'
     exact shd [0,1,5] [] 2 ⟨_,rfl,rfl⟩
   ·replace h1':=(ifF hc').symm.trans h1'
    refine qJ ?_
    obtain rfl:=zso h1'
    refine ⟨_,rfl,fun hr'=>?_⟩
    subst hr'
    exact shd [] [] 2 ⟨h0',rfl⟩
  ·rintro e' ⟨h0',rfl⟩
   unfold laws_eqIntS_j1 at h0'
   refine zB ?_
   refine zA ?_
   refine ops H' ?_
   refine zE ?_
   refine zN ?_
   obtain rfl:=zso h0'
   exact zO H' rfl rfl
theorem W_laws_eqName (a:T_impl_Name) (b:T_impl_Name) (r':Bool) (h0':laws_eqName a b=some r'):Fn X 255 [.agg [.sc (.string a.Path),.sc (.int .i64 a.Id),.sc (.int .i64 a.Version)],.agg [.sc (.string b.Path),.sc (.int .i64 b.Id),.sc (.int .i64 b.Version)]] [.one (.sc (.bool r'))] []:=by
 have H':=And.intro t3 (And.intro t9 (t45))
 unfold laws_eqName at h0'
 refine Fn.start (fn:=f255) (N:=20) (res:=[.tmp 4]) rfl rfl rfl rfl rfl (by simp) ?_
 refine zU H' ?_
 refine zB ?_
 refine zA ?_
 refine ops H' ?_
 refine zE ?_
 refine zB ?_
 refine zB ?_
 refine zA ?_
 refine ops H' ?_
 refine zE ?_
 refine zH (fun hc'=>?_) (fun hc'=>?_)
 ·replace h0':=(ifT hc').symm.trans h0'
  refine zB ?_
  refine zA ?_
  refine ops H' ?_
  refine zE ?_
  refine zN ?_
  obtain rfl:=zso h0'
  exact zO H' rfl rfl
 ·replace h0':=(ifF hc').symm.trans h0'
  refine zM ?_
  refine zB ?_
  refine zB ?_
  refine zA ?_
  refine ops H' ?_
  refine zE ?_
  refine zH (fun hc'=>?_) (fun hc'=>?_)
  ·replace h0':=(ifT hc').symm.trans h0'
   refine zB ?_
   refine zA ?_
   refine ops H' ?_
   refine zE ?_
   refine zN ?_
   obtain rfl:=zso h0'
   exact zO H' rfl rfl
  ·replace h0':=(ifF hc').symm.trans h0'
   refine zM ?_
   refine zB ?_
   refine zB ?_
   refine zA ?_
   refine ops H' ?_
   refine zE ?_
   refine zH (fun hc'=>?_) (fun hc'=>?_)
   ·replace h0':=(ifT hc').symm.trans h0'
    refine zB ?_
    refine zA ?_
    refine ops H' ?_
    refine zE ?_
    refine zN ?_
    obtain rfl:=zso h0'
    exact zO H' rfl rfl
   ·replace h0':=(ifF hc').symm.trans h0'
    refine zM ?_
    refine zB ?_
    refine zA ?_
    refine ops H' ?_
    refine zE ?_
    refine zN ?_
    obtain rfl:=zso h0'
    exact zO H' rfl rfl
theorem W_laws_eqNameS (a:List T_impl_Name) (b:List T_impl_Name) (r':Bool) (h0':laws_eqNameS a b=some r'):Fn X 234 [.one (.list false 3 (List.map (zJ true) a)),.one (.list false 3 (List.map (zJ true) b))] [.one (.sc (.bool r'))] []:=by
 have H':=And.intro t3 (And.intro t41 (And.intro t45 (zZ)))
 unfold laws_eqNameS at h0'
 refine Fn.start (fn:=f234) (N:=27) (res:=[.tmp 4]) rfl rfl rfl rfl rfl (by simp) ?_
 refine zU H' ?_
 refine zB ?_
 refine zA ?_
 refine ops H' ?_
 refine zE ?_
 refine zB ?_
 refine zB ?_
 refine zA ?_
 refine ops H' ?_
 refine zE ?_
 refine zH (fun hc'=>?_) (fun hc'=>?_)
 ·replace h0':=(ifT hc').symm.trans h0'
  refine zB ?_
  refine zA ?_
  refine ops H' ?_
  refine zE ?_
  refine zN ?_
  obtain rfl:=zso h0'
  exact zO H' rfl rfl
 ·replace h0':=(ifF hc').symm.trans h0'
  refine zM ?_
  refine zV (fun e'=>laws_eqNameS_j1=some r'∧e'=⟨27,2,2,[],[]⟩) ?_ ?_
  ·refine zB ?_
   refine zA ?_
   refine ops H' ?_
   refine zE ?_
   obtain ⟨p,hl',h0'⟩:=zbi h0'
   refine zI ?_
   refine zS (fun i e'=>e'=⟨27,2,2,[(0,.pl (.one (.v (.list false 3 (List.map (zJ true) a))))),(1,.pl (.one (.v (.list false 3 (List.map (zJ true) b))))),(5,.pl (.one (.v (.sc (.int .i64 i)))))],[]⟩) hl' (shd [0,1,5] [] 2 rfl) ?_
   rintro i y1' e' h1' rfl
   replace h1':laws_eqNameS_l1 a b i=some y1':=h1'
   unfold laws_eqNameS_l1 at h1'
   refine zB ?_
   refine zB ?_
   refine zA ?_
   refine ops H' ?_
   refine zE ?_
   refine zH (fun hc'=>?_) (fun hc'=>?_)
   ·replace h1':=(ifT hc').symm.trans h1'
    refine zM ?_
    refine zB ?_
    refine zI ?_
    refine zB ?_
    refine regQ ?_
    obtain ⟨x,hv',h1'⟩:=zbi h1'
    have H':=And.intro (zP hv') H'
    obtain ⟨x_1,hv',h1'⟩:=zbi h1'
    have H':=And.intro (zP hv') H'
    refine ops H' ?_
    obtain ⟨x25,hy',h1'⟩:=zbi h1'
    refine callGQ H' (W_laws_eqName _ _ _ hy') ?_
    refine ops H' ?_
    refine quN ?_
    refine zH (fun hc'=>?_) (fun hc'=>?_)
    ·replace h1':=(ifT hc').symm.trans h1'
     refine zB ?_
     refine zA ?_
     refine ops H' ?_
     refine zE ?_
     refine zN ?_
     obtain rfl:=zso h1'
     refine ⟨_,rfl,fun hr'=>?_⟩
     subst hr'
     obtain rfl:=zso h0'
     exact zO H' rfl rfl
    ·replace h1':=(ifF hc').symm.trans h1'
     refine zM ?_
     refine zA ?_
     refine ops H' ?_
     refine zE ?_
     obtain rfl:=zso h1'
     exact shd [0,1,5] [] 2 ⟨_,rfl,rfl⟩
   ·replace h1':=(ifF hc').symm.trans h1'
    refine qJ ?_
    obtain rfl:=zso h1'
    refine ⟨_,rfl,fun hr'=>?_⟩
    subst hr'
    exact shd [] [] 2 ⟨h0',rfl⟩
  ·rintro e' ⟨h0',rfl⟩
   unfold laws_eqNameS_j1 at h0'
   refine zB ?_
   refine zA ?_
   refine ops H' ?_
   refine zE ?_
   refine zN ?_
   obtain rfl:=zso h0'
   exact zO H' rfl rfl
theorem W_laws_eqCommit (a:T_impl_Commit) (b:T_impl_Commit) (r':Bool) (h0':laws_eqCommit a b=some r'):Fn X 168 [.agg [.list false 1 (List.map (rK .i64) a.Parents),.sc (.string a.Note),.list false 3 (List.map (zJ true) a.Names)],.agg [.list false 1 (List.map (rK .i64) b.Parents),.sc (.string b.Note),.list false 3 (List.map (zJ true) b.Names)]] [.one (.sc (.bool r'))] []:=by
 have H':=And.intro t9 (And.intro t40 (And.intro t41 (And.intro t43 (And.intro zZ (qK)))))
 unfold laws_eqCommit at h0'
 refine Fn.start (fn:=f168) (N:=22) (res:=[.tmp 4]) rfl rfl rfl rfl rfl (by simp) ?_
 refine zU H' ?_
 refine zB ?_
 refine zA ?_
 refine ops H' ?_
 refine zE ?_
 refine zB ?_
 refine zB ?_
 refine zA ?_
 refine ops H' ?_
 obtain ⟨x9,hy',h0'⟩:=zbi h0'
 refine zR H' (fun _=>[]) (W_laws_eqIntS _ _ _ hy') ?_
 refine ops H' ?_
 refine zE ?_
 refine zH (fun hc'=>?_) (fun hc'=>?_)
 ·replace h0':=(ifT hc').symm.trans h0'
  refine zB ?_
  refine zA ?_
  refine ops H' ?_
  refine zE ?_
  refine zN ?_
  obtain rfl:=zso h0'
  exact zO H' rfl rfl
 ·replace h0':=(ifF hc').symm.trans h0'
  refine zM ?_
  refine zB ?_
  refine zB ?_
  refine zA ?_
  refine ops H' ?_
  refine zE ?_
  refine zH (fun hc'=>?_) (fun hc'=>?_)
  ·replace h0':=(ifT hc').symm.trans h0'
   refine zB ?_
   refine zA ?_
   refine ops H' ?_
   refine zE ?_
   refine zN ?_
   obtain rfl:=zso h0'
   exact zO H' rfl rfl
  ·replace h0':=(ifF hc').symm.trans h0'
   refine zM ?_
   refine zB ?_
   refine zB ?_
   refine zA ?_
   refine ops H' ?_
   obtain ⟨x20,hy',h0'⟩:=zbi h0'
   refine zR H' (fun _=>[]) (W_laws_eqNameS _ _ _ hy') ?_
   refine ops H' ?_
   refine zE ?_
   refine zH (fun hc'=>?_) (fun hc'=>?_)
   ·replace h0':=(ifT hc').symm.trans h0'
    refine zB ?_
    refine zA ?_
    refine ops H' ?_
    refine zE ?_
    refine zN ?_
    obtain rfl:=zso h0'
    exact zO H' rfl rfl
   ·replace h0':=(ifF hc').symm.trans h0'
    refine zM ?_
    refine zB ?_
    refine zA ?_
    refine ops H' ?_
    refine zE ?_
    refine zN ?_
    obtain rfl:=zso h0'
    exact zO H' rfl rfl
theorem W_laws_eqCommitS (a:List T_impl_Commit) (b:List T_impl_Commit) (r':Bool) (h0':laws_eqCommitS a b=some r'):Fn X 71 [.one (.list false 3 (List.map (zC false) a)),.one (.list false 3 (List.map (zC false) b))] [.one (.sc (.bool r'))] []:=by
 have H':=And.intro t3 (And.intro t24 (And.intro t43 (And.intro qI (And.intro zZ (qK)))))
 unfold laws_eqCommitS at h0'
 refine Fn.start (fn:=f71) (N:=27) (res:=[.tmp 4]) rfl rfl rfl rfl rfl (by simp) ?_
 refine zU H' ?_
 refine zB ?_
 refine zA ?_
 refine ops H' ?_
 refine zE ?_
 refine zB ?_
 refine zB ?_
 refine zA ?_
 refine ops H' ?_
 refine zE ?_
 refine zH (fun hc'=>?_) (fun hc'=>?_)
 ·replace h0':=(ifT hc').symm.trans h0'
  refine zB ?_
  refine zA ?_
  refine ops H' ?_
  refine zE ?_
  refine zN ?_
  obtain rfl:=zso h0'
  exact zO H' rfl rfl
 ·replace h0':=(ifF hc').symm.trans h0'
  refine zM ?_
  refine zV (fun e'=>laws_eqCommitS_j1=some r'∧e'=⟨27,2,2,[],[]⟩) ?_ ?_
  ·refine zB ?_
   refine zA ?_
   refine ops H' ?_
   refine zE ?_
   obtain ⟨p,hl',h0'⟩:=zbi h0'
   refine zI ?_
   refine zS (fun i e'=>e'=⟨27,2,2,[(0,.pl (.one (.v (.list false 3 (List.map (zC false) a))))),(1,.pl (.one (.v (.list false 3 (List.map (zC false) b))))),(5,.pl (.one (.v (.sc (.int .i64 i)))))],[]⟩) hl' (shd [0,1,5] [] 2 rfl) ?_
   rintro i y1' e' h1' rfl
   replace h1':laws_eqCommitS_l1 a b i=some y1':=h1'
   unfold laws_eqCommitS_l1 at h1'
   refine zB ?_
   refine zB ?_
   refine zA ?_
   refine ops H' ?_
   refine zE ?_
   refine zH (fun hc'=>?_) (fun hc'=>?_)
   ·replace h1':=(ifT hc').symm.trans h1'
    refine zM ?_
    refine zB ?_
    refine zI ?_
    refine zB ?_
    refine regQ ?_
    obtain ⟨x,hv',h1'⟩:=zbi h1'
    have H':=And.intro (zP hv') H'
    obtain ⟨x_1,hv',h1'⟩:=zbi h1'
    have H':=And.intro (zP hv') H'
    refine ops H' ?_
    obtain ⟨x25,hy',h1'⟩:=zbi h1'
    refine callGQ H' (W_laws_eqCommit _ _ _ hy') ?_
    refine ops H' ?_
    refine quN ?_
    refine zH (fun hc'=>?_) (fun hc'=>?_)
    ·replace h1':=(ifT hc').symm.trans h1'
     refine zB ?_
     refine zA ?_
     refine ops H' ?_
     refine zE ?_
     refine zN ?_
     obtain rfl:=zso h1'
     refine ⟨_,rfl,fun hr'=>?_⟩
     subst hr'
     obtain rfl:=zso h0'
     exact zO H' rfl rfl
    ·replace h1':=(ifF hc').symm.trans h1'
     refine zM ?_
     refine zA ?_
     refine ops H' ?_
     refine zE ?_
     obtain rfl:=zso h1'
     exact shd [0,1,5] [] 2 ⟨_,rfl,rfl⟩
   ·replace h1':=(ifF hc').symm.trans h1'
    refine qJ ?_
    obtain rfl:=zso h1'
    refine ⟨_,rfl,fun hr'=>?_⟩
    subst hr'
    exact shd [] [] 2 ⟨h0',rfl⟩
  ·rintro e' ⟨h0',rfl⟩
   unfold laws_eqCommitS_j1 at h0'
   refine zB ?_
   refine zA ?_
   refine ops H' ?_
   refine zE ?_
   refine zN ?_
   obtain rfl:=zso h0'
   exact zO H' rfl rfl
theorem W_laws_eqIntSS (a:List (List Int)) (b:List (List Int)) (r':Bool) (h0':laws_eqIntSS a b=some r'):Fn X 131 [.one (.list false 1 (List.map (rL false 1 (rK .i64)) a)),.one (.list false 1 (List.map (rL false 1 (rK .i64)) b))] [.one (.sc (.bool r'))] []:=by
 have H':=And.intro t3 (And.intro t33 (And.intro t40 (And.intro qT (qK))))
 unfold laws_eqIntSS at h0'
 refine Fn.start (fn:=f131) (N:=27) (res:=[.tmp 4]) rfl rfl rfl rfl rfl (by simp) ?_
 refine zU H' ?_
 refine zB ?_
 refine zA ?_
 refine ops H' ?_
 refine zE ?_
 refine zB ?_
 refine zB ?_
 refine zA ?_
 refine ops H' ?_
 refine zE ?_
 refine zH (fun hc'=>?_) (fun hc'=>?_)
 ·replace h0':=(ifT hc').symm.trans h0'
  refine zB ?_
  refine zA ?_
  refine ops H' ?_
  refine zE ?_
  refine zN ?_
  obtain rfl:=zso h0'
  exact zO H' rfl rfl
 ·replace h0':=(ifF hc').symm.trans h0'
  refine zM ?_
  refine zV (fun e'=>laws_eqIntSS_j1=some r'∧e'=⟨27,2,2,[],[]⟩) ?_ ?_
  ·refine zB ?_
   refine zA ?_
   refine ops H' ?_
   refine zE ?_
   obtain ⟨p,hl',h0'⟩:=zbi h0'
   refine zI ?_
   refine zS (fun i e'=>e'=⟨27,2,2,[(0,.pl (.one (.v (.list false 1 (List.map (rL false 1 (rK .i64)) a))))),(1,.pl (.one (.v (.list false 1 (List.map (rL false 1 (rK .i64)) b))))),(5,.pl (.one (.v (.sc (.int .i64 i)))))],[]⟩) hl' (shd [0,1,5] [] 2 rfl) ?_
   rintro i y1' e' h1' rfl
   replace h1':laws_eqIntSS_l1 a b i=some y1':=h1'
   unfold laws_eqIntSS_l1 at h1'
   refine zB ?_
   refine zB ?_
   refine zA ?_
   refine ops H' ?_
   refine zE ?_
   refine zH (fun hc'=>?_) (fun hc'=>?_)
   ·replace h1':=(ifT hc').symm.trans h1'
    refine zM ?_
    refine zB ?_
    refine zI ?_
    refine zB ?_
    refine regQ ?_
    obtain ⟨x,hv',h1'⟩:=zbi h1'
    have H':=And.intro (zP hv') H'
    obtain ⟨x_1,hv',h1'⟩:=zbi h1'
    have H':=And.intro (zP hv') H'
    refine ops H' ?_
    obtain ⟨x25,hy',h1'⟩:=zbi h1'
    refine callGQ H' (W_laws_eqIntS _ _ _ hy') ?_
    refine ops H' ?_
    refine quN ?_
    refine zH (fun hc'=>?_) (fun hc'=>?_)
    ·replace h1':=(ifT hc').symm.trans h1'
     refine zB ?_
     refine zA ?_
     refine ops H' ?_
     refine zE ?_
     refine zN ?_
     obtain rfl:=zso h1'
     refine ⟨_,rfl,fun hr'=>?_⟩
     subst hr'
     obtain rfl:=zso h0'
     exact zO H' rfl rfl
    ·replace h1':=(ifF hc').symm.trans h1'
     refine zM ?_
     refine zA ?_
     refine ops H' ?_
     refine zE ?_
     obtain rfl:=zso h1'
     exact shd [0,1,5] [] 2 ⟨_,rfl,rfl⟩
   ·replace h1':=(ifF hc').symm.trans h1'
    refine qJ ?_
    obtain rfl:=zso h1'
    refine ⟨_,rfl,fun hr'=>?_⟩
    subst hr'
    exact shd [] [] 2 ⟨h0',rfl⟩
  ·rintro e' ⟨h0',rfl⟩
   unfold laws_eqIntSS_j1 at h0'
   refine zB ?_
   refine zA ?_
   refine ops H' ?_
   refine zE ?_
   refine zN ?_
   obtain rfl:=zso h0'
   exact zO H' rfl rfl
theorem W_laws_eqBody (a:T_impl_Body) (b:T_impl_Body) (r':Bool) (h0':laws_eqBody a b=some r'):Fn X 208 [.agg [.sc (.string a.Line),.sc (.int .i64 a.Ins),.sc (.int .i64 a.Ord),.list false 1 (List.map (rK .i64) a.Dels)],.agg [.sc (.string b.Line),.sc (.int .i64 b.Ins),.sc (.int .i64 b.Ord),.list false 1 (List.map (rK .i64) b.Dels)]] [.one (.sc (.bool r'))] []:=by
 have H':=And.intro t3 (And.intro t9 (And.intro t40 (And.intro t73 (qK))))
 unfold laws_eqBody at h0'
 refine Fn.start (fn:=f208) (N:=26) (res:=[.tmp 4]) rfl rfl rfl rfl rfl (by simp) ?_
 refine zU H' ?_
 refine zB ?_
 refine zA ?_
 refine ops H' ?_
 refine zE ?_
 refine zB ?_
 refine zB ?_
 refine zA ?_
 refine ops H' ?_
 refine zE ?_
 refine zH (fun hc'=>?_) (fun hc'=>?_)
 ·replace h0':=(ifT hc').symm.trans h0'
  refine zB ?_
  refine zA ?_
  refine ops H' ?_
  refine zE ?_
  refine zN ?_
  obtain rfl:=zso h0'
  exact zO H' rfl rfl
 ·replace h0':=(ifF hc').symm.trans h0'
  refine zM ?_
  refine zB ?_
  refine zB ?_
  refine zA ?_
  refine ops H' ?_
  refine zE ?_
  refine zH (fun hc'=>?_) (fun hc'=>?_)
  ·replace h0':=(ifT hc').symm.trans h0'
   refine zB ?_
   refine zA ?_
   refine ops H' ?_
   refine zE ?_
   refine zN ?_
   obtain rfl:=zso h0'
   exact zO H' rfl rfl
  ·replace h0':=(ifF hc').symm.trans h0'
   refine zM ?_
   refine zB ?_
   refine zB ?_
   refine zA ?_
   refine ops H' ?_
   refine zE ?_
   refine zH (fun hc'=>?_) (fun hc'=>?_)
   ·replace h0':=(ifT hc').symm.trans h0'
    refine zB ?_
    refine zA ?_
    refine ops H' ?_
    refine zE ?_
    refine zN ?_
    obtain rfl:=zso h0'
    exact zO H' rfl rfl
   ·replace h0':=(ifF hc').symm.trans h0'
    refine zM ?_
    refine zB ?_
    refine zB ?_
    refine zA ?_
    refine ops H' ?_
    obtain ⟨x24,hy',h0'⟩:=zbi h0'
    refine zR H' (fun _=>[]) (W_laws_eqIntS _ _ _ hy') ?_
    refine ops H' ?_
    refine zE ?_
    refine zH (fun hc'=>?_) (fun hc'=>?_)
    ·replace h0':=(ifT hc').symm.trans h0'
     refine zB ?_
     refine zA ?_
     refine ops H' ?_
     refine zE ?_
     refine zN ?_
     obtain rfl:=zso h0'
     exact zO H' rfl rfl
    ·replace h0':=(ifF hc').symm.trans h0'
     refine zM ?_
     refine zB ?_
     refine zA ?_
     refine ops H' ?_
     refine zE ?_
     refine zN ?_
     obtain rfl:=zso h0'
     exact zO H' rfl rfl
theorem W_laws_eqBodyS (a:List T_impl_Body) (b:List T_impl_Body) (r':Bool) (h0':laws_eqBodyS a b=some r'):Fn X 132 [.one (.list false 4 (List.map (zF false) a)),.one (.list false 4 (List.map (zF false) b))] [.one (.sc (.bool r'))] []:=by
 have H':=And.intro t3 (And.intro t34 (And.intro t73 (And.intro qL (qK))))
 unfold laws_eqBodyS at h0'
 refine Fn.start (fn:=f132) (N:=27) (res:=[.tmp 4]) rfl rfl rfl rfl rfl (by simp) ?_
 refine zU H' ?_
 refine zB ?_
 refine zA ?_
 refine ops H' ?_
 refine zE ?_
 refine zB ?_
 refine zB ?_
 refine zA ?_
 refine ops H' ?_
 refine zE ?_
 refine zH (fun hc'=>?_) (fun hc'=>?_)
 ·replace h0':=(ifT hc').symm.trans h0'
  refine zB ?_
  refine zA ?_
  refine ops H' ?_
  refine zE ?_
  refine zN ?_
  obtain rfl:=zso h0'
  exact zO H' rfl rfl
 ·replace h0':=(ifF hc').symm.trans h0'
  refine zM ?_
  refine zV (fun e'=>laws_eqBodyS_j1=some r'∧e'=⟨27,2,2,[],[]⟩) ?_ ?_
  ·refine zB ?_
   refine zA ?_
   refine ops H' ?_
   refine zE ?_
   obtain ⟨p,hl',h0'⟩:=zbi h0'
   refine zI ?_
   refine zS (fun i e'=>e'=⟨27,2,2,[(0,.pl (.one (.v (.list false 4 (List.map (zF false) a))))),(1,.pl (.one (.v (.list false 4 (List.map (zF false) b))))),(5,.pl (.one (.v (.sc (.int .i64 i)))))],[]⟩) hl' (shd [0,1,5] [] 2 rfl) ?_
   rintro i y1' e' h1' rfl
   replace h1':laws_eqBodyS_l1 a b i=some y1':=h1'
   unfold laws_eqBodyS_l1 at h1'
   refine zB ?_
   refine zB ?_
   refine zA ?_
   refine ops H' ?_
   refine zE ?_
   refine zH (fun hc'=>?_) (fun hc'=>?_)
   ·replace h1':=(ifT hc').symm.trans h1'
    refine zM ?_
    refine zB ?_
    refine zI ?_
    refine zB ?_
    refine regQ ?_
    obtain ⟨x,hv',h1'⟩:=zbi h1'
    have H':=And.intro (zP hv') H'
    obtain ⟨x_1,hv',h1'⟩:=zbi h1'
    have H':=And.intro (zP hv') H'
    refine ops H' ?_
    obtain ⟨x25,hy',h1'⟩:=zbi h1'
    refine callGQ H' (W_laws_eqBody _ _ _ hy') ?_
    refine ops H' ?_
    refine quN ?_
    refine zH (fun hc'=>?_) (fun hc'=>?_)
    ·replace h1':=(ifT hc').symm.trans h1'
     refine zB ?_
     refine zA ?_
     refine ops H' ?_
     refine zE ?_
     refine zN ?_
     obtain rfl:=zso h1'
     refine ⟨_,rfl,fun hr'=>?_⟩
     subst hr'
     obtain rfl:=zso h0'
     exact zO H' rfl rfl
    ·replace h1':=(ifF hc').symm.trans h1'
     refine zM ?_
     refine zA ?_
     refine ops H' ?_
     refine zE ?_
     obtain rfl:=zso h1'
     exact shd [0,1,5] [] 2 ⟨_,rfl,rfl⟩
   ·replace h1':=(ifF hc').symm.trans h1'
    refine qJ ?_
    obtain rfl:=zso h1'
    refine ⟨_,rfl,fun hr'=>?_⟩
    subst hr'
    exact shd [] [] 2 ⟨h0',rfl⟩
  ·rintro e' ⟨h0',rfl⟩
   unfold laws_eqBodyS_j1 at h0'
   refine zB ?_
   refine zA ?_
   refine ops H' ?_
   refine zE ?_
   refine zN ?_
   obtain rfl:=zso h0'
   exact zO H' rfl rfl
theorem W_laws_eqWeave (a:T_impl_Weave) (b:T_impl_Weave) (r':Bool) (h0':laws_eqWeave a b=some r'):Fn X 44 [.agg [.list false 1 (List.map (rL false 1 (rK .i64)) a.Parents),.list false 4 (List.map (zF false) a.Bodies)],.agg [.list false 1 (List.map (rL false 1 (rK .i64)) b.Parents),.list false 4 (List.map (zF false) b.Bodies)]] [.one (.sc (.bool r'))] []:=by
 have H':=And.intro t33 (And.intro t34 (And.intro t36 (And.intro qT (And.intro qL (qK)))))
 unfold laws_eqWeave at h0'
 refine Fn.start (fn:=f44) (N:=17) (res:=[.tmp 4]) rfl rfl rfl rfl rfl (by simp) ?_
 refine zU H' ?_
 refine zB ?_
 refine zA ?_
 refine ops H' ?_
 refine zE ?_
 refine zB ?_
 refine zB ?_
 refine zA ?_
 refine ops H' ?_
 obtain ⟨x9,hy',h0'⟩:=zbi h0'
 refine zR H' (fun _=>[]) (W_laws_eqIntSS _ _ _ hy') ?_
 refine ops H' ?_
 refine zE ?_
 refine zH (fun hc'=>?_) (fun hc'=>?_)
 ·replace h0':=(ifT hc').symm.trans h0'
  refine zB ?_
  refine zA ?_
  refine ops H' ?_
  refine zE ?_
  refine zN ?_
  obtain rfl:=zso h0'
  exact zO H' rfl rfl
 ·replace h0':=(ifF hc').symm.trans h0'
  refine zM ?_
  refine zB ?_
  refine zB ?_
  refine zA ?_
  refine ops H' ?_
  obtain ⟨x15,hy',h0'⟩:=zbi h0'
  refine zR H' (fun _=>[]) (W_laws_eqBodyS _ _ _ hy') ?_
  refine ops H' ?_
  refine zE ?_
  refine zH (fun hc'=>?_) (fun hc'=>?_)
  ·replace h0':=(ifT hc').symm.trans h0'
   refine zB ?_
   refine zA ?_
   refine ops H' ?_
   refine zE ?_
   refine zN ?_
   obtain rfl:=zso h0'
   exact zO H' rfl rfl
  ·replace h0':=(ifF hc').symm.trans h0'
   refine zM ?_
   refine zB ?_
   refine zA ?_
   refine ops H' ?_
   refine zE ?_
   refine zN ?_
   obtain rfl:=zso h0'
   exact zO H' rfl rfl
theorem W_laws_eqWeaveS (a:List T_impl_Weave) (b:List T_impl_Weave) (r':Bool) (h0':laws_eqWeaveS a b=some r'):Fn X 72 [.one (.list false 2 (List.map (zD false) a)),.one (.list false 2 (List.map (zD false) b))] [.one (.sc (.bool r'))] []:=by
 have H':=And.intro t3 (And.intro t25 (And.intro t36 (And.intro qT (And.intro qL (And.intro qV (qK))))))
 unfold laws_eqWeaveS at h0'
 refine Fn.start (fn:=f72) (N:=27) (res:=[.tmp 4]) rfl rfl rfl rfl rfl (by simp) ?_
 refine zU H' ?_
 refine zB ?_
 refine zA ?_
 refine ops H' ?_
 refine zE ?_
 refine zB ?_
 refine zB ?_
 refine zA ?_
 refine ops H' ?_
 refine zE ?_
 refine zH (fun hc'=>?_) (fun hc'=>?_)
 ·replace h0':=(ifT hc').symm.trans h0'
  refine zB ?_
  refine zA ?_
  refine ops H' ?_
  refine zE ?_
  refine zN ?_
  obtain rfl:=zso h0'
  exact zO H' rfl rfl
 ·replace h0':=(ifF hc').symm.trans h0'
  refine zM ?_
  refine zV (fun e'=>laws_eqWeaveS_j1=some r'∧e'=⟨27,2,2,[],[]⟩) ?_ ?_
  ·refine zB ?_
   refine zA ?_
   refine ops H' ?_
   refine zE ?_
   obtain ⟨p,hl',h0'⟩:=zbi h0'
   refine zI ?_
   refine zS (fun i e'=>e'=⟨27,2,2,[(0,.pl (.one (.v (.list false 2 (List.map (zD false) a))))),(1,.pl (.one (.v (.list false 2 (List.map (zD false) b))))),(5,.pl (.one (.v (.sc (.int .i64 i)))))],[]⟩) hl' (shd [0,1,5] [] 2 rfl) ?_
   rintro i y1' e' h1' rfl
   replace h1':laws_eqWeaveS_l1 a b i=some y1':=h1'
   unfold laws_eqWeaveS_l1 at h1'
   refine zB ?_
   refine zB ?_
   refine zA ?_
   refine ops H' ?_
   refine zE ?_
   refine zH (fun hc'=>?_) (fun hc'=>?_)
   ·replace h1':=(ifT hc').symm.trans h1'
    refine zM ?_
    refine zB ?_
    refine zI ?_
    refine zB ?_
    refine regQ ?_
    obtain ⟨x,hv',h1'⟩:=zbi h1'
    have H':=And.intro (zP hv') H'
    obtain ⟨x_1,hv',h1'⟩:=zbi h1'
    have H':=And.intro (zP hv') H'
    refine ops H' ?_
    obtain ⟨x25,hy',h1'⟩:=zbi h1'
    refine callGQ H' (W_laws_eqWeave _ _ _ hy') ?_
    refine ops H' ?_
    refine quN ?_
    refine zH (fun hc'=>?_) (fun hc'=>?_)
    ·replace h1':=(ifT hc').symm.trans h1'
     refine zB ?_
     refine zA ?_
     refine ops H' ?_
     refine zE ?_
     refine zN ?_
     obtain rfl:=zso h1'
     refine ⟨_,rfl,fun hr'=>?_⟩
     subst hr'
     obtain rfl:=zso h0'
     exact zO H' rfl rfl
    ·replace h1':=(ifF hc').symm.trans h1'
     refine zM ?_
     refine zA ?_
     refine ops H' ?_
     refine zE ?_
     obtain rfl:=zso h1'
     exact shd [0,1,5] [] 2 ⟨_,rfl,rfl⟩
   ·replace h1':=(ifF hc').symm.trans h1'
    refine qJ ?_
    obtain rfl:=zso h1'
    refine ⟨_,rfl,fun hr'=>?_⟩
    subst hr'
    exact shd [] [] 2 ⟨h0',rfl⟩
  ·rintro e' ⟨h0',rfl⟩
   unfold laws_eqWeaveS_j1 at h0'
   refine zB ?_
   refine zA ?_
   refine ops H' ?_
   refine zE ?_
   refine zN ?_
   obtain rfl:=zso h0'
   exact zO H' rfl rfl
theorem W_laws_eqStore (a:T_impl_Store) (b:T_impl_Store) (r':Bool) (h0':laws_eqStore a b=some r'):Fn X 18 [.agg [.list false 3 (List.map (zC false) a.Commits),.list false 2 (List.map (zD false) a.Files)],.agg [.list false 3 (List.map (zC false) b.Commits),.list false 2 (List.map (zD false) b.Files)]] [.one (.sc (.bool r'))] []:=by
 have H':=And.intro t24 (And.intro t25 (And.intro t27 (And.intro qT (And.intro qL (And.intro qI (And.intro zZ (And.intro qV (qK))))))))
 unfold laws_eqStore at h0'
 refine Fn.start (fn:=f18) (N:=17) (res:=[.tmp 4]) rfl rfl rfl rfl rfl (by simp) ?_
 refine zU H' ?_
 refine zB ?_
 refine zA ?_
 refine ops H' ?_
 refine zE ?_
 refine zB ?_
 refine zB ?_
 refine zA ?_
 refine ops H' ?_
 obtain ⟨x9,hy',h0'⟩:=zbi h0'
 refine zR H' (fun _=>[]) (W_laws_eqCommitS _ _ _ hy') ?_
 refine ops H' ?_
 refine zE ?_
 refine zH (fun hc'=>?_) (fun hc'=>?_)
 ·replace h0':=(ifT hc').symm.trans h0'
  refine zB ?_
  refine zA ?_
  refine ops H' ?_
  refine zE ?_
  refine zN ?_
  obtain rfl:=zso h0'
  exact zO H' rfl rfl
 ·replace h0':=(ifF hc').symm.trans h0'
  refine zM ?_
  refine zB ?_
  refine zB ?_
  refine zA ?_
  refine ops H' ?_
  obtain ⟨x15,hy',h0'⟩:=zbi h0'
  refine zR H' (fun _=>[]) (W_laws_eqWeaveS _ _ _ hy') ?_
  refine ops H' ?_
  refine zE ?_
  refine zH (fun hc'=>?_) (fun hc'=>?_)
  ·replace h0':=(ifT hc').symm.trans h0'
   refine zB ?_
   refine zA ?_
   refine ops H' ?_
   refine zE ?_
   refine zN ?_
   obtain rfl:=zso h0'
   exact zO H' rfl rfl
  ·replace h0':=(ifF hc').symm.trans h0'
   refine zM ?_
   refine zB ?_
   refine zA ?_
   refine ops H' ?_
   refine zE ?_
   refine zN ?_
   obtain rfl:=zso h0'
   exact zO H' rfl rfl
theorem W_laws_markIntS (a:List Int) (k:Int) (r':Int×(List Int)) (h0':laws_markIntS a k=some r'):Fn X 20 [.one (.list true 1 (List.map (rK .i64) a)),.one (.sc (.int .i64 k))] [.one (.sc (.int .i64 r'.1))] [(0,.list true 1 (List.map (rK .i64) r'.2))]:=by
 have H':=And.intro t3 (And.intro t40 (qK))
 unfold laws_markIntS at h0'
 refine Fn.start (fn:=f20) (N:=19) (res:=[.tmp 4]) rfl rfl rfl rfl rfl (by simp) ?_
 refine zU H' ?_
 refine zB ?_
 refine zA ?_
 refine ops H' ?_
 refine zE ?_
 refine zV (fun e'=>∃ k_1 a_1,laws_markIntS_j1 k_1 a_1=some r'∧e'=⟨19,2,2,[(1,.pl (.one (.v (.sc (.int .i64 k_1)))))],[(0,.list true 1 (List.map (rK .i64) a_1))]⟩) ?_ ?_
 ·refine zB ?_
  refine zA ?_
  refine ops H' ?_
  refine zE ?_
  obtain ⟨p,hl',h0'⟩:=zbi h0'
  refine zI ?_
  refine zS (fun s' e'=>∃ k_2 i a_2,s'=(k_2,i,a_2)∧e'=⟨19,2,2,[(0,.pl (.one (.ref 0 []))),(1,.pl (.one (.v (.sc (.int .i64 k_2))))),(5,.pl (.one (.v (.sc (.int .i64 i)))))],[(0,.list true 1 (List.map (rK .i64) a_2))]⟩) hl' (shd [0,1,5] [(0,0)] 2 ⟨_,_,_,rfl,rfl⟩) ?_
  rintro s' y1' e' h1' ⟨k_2,i,a_2,rfl,rfl⟩
  replace h1':laws_markIntS_l1 k_2 i a_2=some y1':=h1'
  unfold laws_markIntS_l1 at h1'
  refine zB ?_
  refine zB ?_
  refine zA ?_
  refine ops H' ?_
  refine zE ?_
  refine zH (fun hc'=>?_) (fun hc'=>?_)
  ·replace h1':=(ifT hc').symm.trans h1'
   refine zM ?_
   refine zB ?_
   refine zI ?_
   refine zB ?_
   refine zA ?_
   obtain ⟨x,hv',h1'⟩:=zbi h1'
   have H':=And.intro (zP hv') H'
   refine ops H' ?_
   refine zE ?_
   refine zA ?_
   refine ops H' ?_
   refine zE ?_
   refine zA ?_
   refine ops H' ?_
   refine zE ?_
   obtain rfl:=zso h1'
   exact shd [0,1,5] [(0,0)] 2 ⟨_,rfl,_,_,_,rfl,rfl⟩
  ·replace h1':=(ifF hc').symm.trans h1'
   refine qJ ?_
   obtain rfl:=zso h1'
   refine ⟨_,rfl,fun hr'=>?_⟩
   subst hr'
   exact shd [1] [(0,0)] 2 ⟨_,_,h0',rfl⟩
 ·rintro e' ⟨k_1,a_1,h0',rfl⟩
  unfold laws_markIntS_j1 at h0'
  refine zB ?_
  refine zA ?_
  refine ops H' ?_
  refine zE ?_
  refine zN ?_
  obtain rfl:=zso h0'
  exact zO H' rfl rfl
theorem W_laws_markText (k:Int) (r':ByteArray) (h0':laws_markText k=some r'):Fn X 169 [.one (.sc (.int .i64 k))] [.one (.sc (.string r'))] []:=by
 have H':=And.intro t3 (And.intro t5 (And.intro t9 (t22)))
 unfold laws_markText at h0'
 refine Fn.start (fn:=f169) (N:=20) (res:=[.tmp 2]) rfl rfl rfl rfl rfl (by simp) ?_
 refine zU H' ?_
 refine zB ?_
 refine zA ?_
 refine ops H' ?_
 refine zE ?_
 refine zB ?_
 refine zB ?_
 refine zA ?_
 refine ops H' ?_
 refine zE ?_
 refine zH (fun hc'=>?_) (fun hc'=>?_)
 ·replace h0':=(ifT hc').symm.trans h0'
  refine zB ?_
  refine zA ?_
  refine ops H' ?_
  refine zE ?_
  refine zN ?_
  obtain rfl:=zso h0'
  exact zO H' rfl rfl
 ·replace h0':=(ifF hc').symm.trans h0'
  refine zM ?_
  refine zB ?_
  refine zA ?_
  refine ops H' ?_
  refine zE ?_
  refine zV (fun e'=>∃ out_,laws_markText_j1 out_=some r'∧e'=⟨20,1,1,[(3,.pl (.one (.v (.sc (.string out_)))))],[]⟩) ?_ ?_
  ·obtain ⟨p,hl',h0'⟩:=zbi h0'
   refine zI ?_
   refine zS (fun s' e'=>∃ k_1 out__1,s'=(k_1,out__1)∧e'=⟨20,1,1,[(0,.pl (.one (.v (.sc (.int .i64 k_1))))),(3,.pl (.one (.v (.sc (.string out__1)))))],[]⟩) hl' (shd [0,3] [] 1 ⟨_,_,rfl,rfl⟩) ?_
   rintro s' y1' e' h1' ⟨k_1,out__1,rfl,rfl⟩
   replace h1':laws_markText_l1 k_1 out__1=some y1':=h1'
   unfold laws_markText_l1 at h1'
   refine zB ?_
   refine zB ?_
   refine zA ?_
   refine ops H' ?_
   refine zE ?_
   refine zH (fun hc'=>?_) (fun hc'=>?_)
   ·replace h1':=(ifT hc').symm.trans h1'
    refine zM ?_
    refine zI ?_
    refine zB ?_
    refine zA ?_
    have H':=And.intro (show bytesOf [[V.sc (.int .u8 (wk .u8 (wk .i64 (48+(k_1.tmod 10)))))]]=some [(wk .u8 (wk .i64 (48+(k_1.tmod 10))))] from bytesOf_rK [(wk .u8 (wk .i64 (48+(k_1.tmod 10))))]) H'
    obtain ⟨t_1,hv',h1'⟩:=zbi h1'
    have H':=And.intro (sapp_f hv') H'
    refine ops H' ?_
    refine zE ?_
    refine zA ?_
    refine ops H' ?_
    refine zE ?_
    obtain rfl:=zso h1'
    exact shd [0,3] [] 1 ⟨_,rfl,_,_,rfl,rfl⟩
   ·replace h1':=(ifF hc').symm.trans h1'
    refine qJ ?_
    obtain rfl:=zso h1'
    refine ⟨_,rfl,fun hr'=>?_⟩
    subst hr'
    exact shd [3] [] 1 ⟨_,h0',rfl⟩
  ·rintro e' ⟨out_,h0',rfl⟩
   unfold laws_markText_j1 at h0'
   refine zB ?_
   refine zA ?_
   obtain ⟨t,hv',h0'⟩:=zbi h0'
   have H':=And.intro (sapp_f hv') H'
   refine ops H' ?_
   refine zE ?_
   refine zN ?_
   obtain rfl:=zso h0'
   exact zO H' rfl rfl
theorem W_laws_markNameS (a:List T_impl_Name) (k:Int) (r':Int×(List T_impl_Name)) (h0':laws_markNameS a k=some r'):Fn X 170 [.one (.list true 3 (List.map (zJ true) a)),.one (.sc (.int .i64 k))] [.one (.sc (.int .i64 r'.1))] [(0,.list true 3 (List.map (zJ true) r'.2))]:=by
 have H':=And.intro t3 (And.intro t9 (And.intro t41 (And.intro t45 (zZ))))
 unfold laws_markNameS at h0'
 refine Fn.start (fn:=f170) (N:=35) (res:=[.tmp 4]) rfl rfl rfl rfl rfl (by simp) ?_
 refine zU H' ?_
 refine zB ?_
 refine zA ?_
 refine ops H' ?_
 refine zE ?_
 refine zV (fun e'=>∃ k_1 a_1,laws_markNameS_j1 k_1 a_1=some r'∧e'=⟨35,2,2,[(1,.pl (.one (.v (.sc (.int .i64 k_1)))))],[(0,.list true 3 (List.map (zJ true) a_1))]⟩) ?_ ?_
 ·refine zB ?_
  refine zA ?_
  refine ops H' ?_
  refine zE ?_
  obtain ⟨p,hl',h0'⟩:=zbi h0'
  refine zI ?_
  refine zS (fun s' e'=>∃ k_2 i a_2,s'=(k_2,i,a_2)∧e'=⟨35,2,2,[(0,.pl (.one (.ref 0 []))),(1,.pl (.one (.v (.sc (.int .i64 k_2))))),(5,.pl (.one (.v (.sc (.int .i64 i)))))],[(0,.list true 3 (List.map (zJ true) a_2))]⟩) hl' (shd [0,1,5] [(0,0)] 2 ⟨_,_,_,rfl,rfl⟩) ?_
  rintro s' y1' e' h1' ⟨k_2,i,a_2,rfl,rfl⟩
  replace h1':jQ k_2 i a_2=some y1':=h1'
  unfold jQ at h1'
  refine zB ?_
  refine zB ?_
  refine zA ?_
  refine ops H' ?_
  refine zE ?_
  refine zH (fun hc'=>?_) (fun hc'=>?_)
  ·replace h1':=(ifT hc').symm.trans h1'
   refine zM ?_
   refine zB ?_
   refine zI ?_
   refine zB ?_
   refine zA ?_
   refine ops H' ?_
   obtain ⟨x15,hy',h1'⟩:=zbi h1'
   refine zR H' (fun _=>[]) (W_laws_markText _ _ hy') ?_
   obtain ⟨x,hv',h1'⟩:=zbi h1'
   have H':=And.intro (zP hv') H'
   refine ops H' ?_
   refine zE ?_
   refine zB ?_
   refine zA ?_
   refine ops H' ?_
   refine zE ?_
   refine zB ?_
   refine zA ?_
   obtain ⟨x_1,hv',h1'⟩:=zbi h1'
   have H':=And.intro (zP hv') H'
   refine ops H' ?_
   refine zE ?_
   refine zB ?_
   refine zA ?_
   refine ops H' ?_
   refine zE ?_
   refine zB ?_
   refine zA ?_
   obtain ⟨x_2,hv',h1'⟩:=zbi h1'
   have H':=And.intro (zP hv') H'
   refine ops H' ?_
   refine zE ?_
   refine zA ?_
   refine ops H' ?_
   refine zE ?_
   refine zA ?_
   refine ops H' ?_
   refine zE ?_
   obtain rfl:=zso h1'
   exact shd [0,1,5] [(0,0)] 2 ⟨_,rfl,_,_,_,rfl,rfl⟩
  ·replace h1':=(ifF hc').symm.trans h1'
   refine qJ ?_
   obtain rfl:=zso h1'
   refine ⟨_,rfl,fun hr'=>?_⟩
   subst hr'
   exact shd [1] [(0,0)] 2 ⟨_,_,h0',rfl⟩
 ·rintro e' ⟨k_1,a_1,h0',rfl⟩
  unfold laws_markNameS_j1 at h0'
  refine zB ?_
  refine zA ?_
  refine ops H' ?_
  refine zE ?_
  refine zN ?_
  obtain rfl:=zso h0'
  exact zO H' rfl rfl
theorem W_laws_markCommitS (a:List T_impl_Commit) (k:Int) (r':Int×(List T_impl_Commit)) (h0':laws_markCommitS a k=some r'):Fn X 73 [.one (.list true 3 (List.map (zC true) a)),.one (.sc (.int .i64 k))] [.one (.sc (.int .i64 r'.1))] [(0,.list true 3 (List.map (zC true) r'.2))]:=by
 have H':=And.intro t3 (And.intro t9 (And.intro t24 (And.intro t40 (And.intro t41 (And.intro t43 (And.intro qI (And.intro zZ (qK))))))))
 unfold laws_markCommitS at h0'
 refine Fn.start (fn:=f73) (N:=35) (res:=[.tmp 4]) rfl rfl rfl rfl rfl (by simp) ?_
 refine zU H' ?_
 refine zB ?_
 refine zA ?_
 refine ops H' ?_
 refine zE ?_
 refine zV (fun e'=>∃ k_1 a_1,laws_markCommitS_j1 k_1 a_1=some r'∧e'=⟨35,2,2,[(1,.pl (.one (.v (.sc (.int .i64 k_1)))))],[(0,.list true 3 (List.map (zC true) a_1))]⟩) ?_ ?_
 ·refine zB ?_
  refine zA ?_
  refine ops H' ?_
  refine zE ?_
  obtain ⟨p,hl',h0'⟩:=zbi h0'
  refine zI ?_
  refine zS (fun s' e'=>∃ k_2 i a_2,s'=(k_2,i,a_2)∧e'=⟨35,2,2,[(0,.pl (.one (.ref 0 []))),(1,.pl (.one (.v (.sc (.int .i64 k_2))))),(5,.pl (.one (.v (.sc (.int .i64 i)))))],[(0,.list true 3 (List.map (zC true) a_2))]⟩) hl' (shd [0,1,5] [(0,0)] 2 ⟨_,_,_,rfl,rfl⟩) ?_
  rintro s' y1' e' h1' ⟨k_2,i,a_2,rfl,rfl⟩
  replace h1':jE k_2 i a_2=some y1':=h1'
  unfold jE at h1'
  refine zB ?_
  refine zB ?_
  refine zA ?_
  refine ops H' ?_
  refine zE ?_
  refine zH (fun hc'=>?_) (fun hc'=>?_)
  ·replace h1':=(ifT hc').symm.trans h1'
   refine zM ?_
   refine zB ?_
   refine zI ?_
   refine zB ?_
   refine zA ?_
   obtain ⟨x,hv',h1'⟩:=zbi h1'
   have H':=And.intro (zP hv') H'
   refine ops H' ?_
   obtain ⟨x18,hy',h1'⟩:=zbi h1'
   refine zR H' (fun _=>[0]) (W_laws_markIntS _ _ _ hy') ?_
   refine ops H' ?_
   refine zE ?_
   refine zB ?_
   refine zA ?_
   refine ops H' ?_
   obtain ⟨x22,hy',h1'⟩:=zbi h1'
   refine zR H' (fun _=>[]) (W_laws_markText _ _ hy') ?_
   obtain ⟨x_1,hv',h1'⟩:=zbi h1'
   have H':=And.intro (zP hv') H'
   refine ops H' ?_
   refine zE ?_
   refine zB ?_
   refine zA ?_
   refine ops H' ?_
   refine zE ?_
   refine zA ?_
   obtain ⟨x_2,hv',h1'⟩:=zbi h1'
   have H':=And.intro (zP hv') H'
   refine ops H' ?_
   obtain ⟨x33,hy',h1'⟩:=zbi h1'
   refine zR H' (fun _=>[0]) (W_laws_markNameS _ _ _ hy') ?_
   refine ops H' ?_
   refine zE ?_
   refine zA ?_
   refine ops H' ?_
   refine zE ?_
   obtain rfl:=zso h1'
   exact shd [0,1,5] [(0,0)] 2 ⟨_,rfl,_,_,_,rfl,rfl⟩
  ·replace h1':=(ifF hc').symm.trans h1'
   refine qJ ?_
   obtain rfl:=zso h1'
   refine ⟨_,rfl,fun hr'=>?_⟩
   subst hr'
   exact shd [1] [(0,0)] 2 ⟨_,_,h0',rfl⟩
 ·rintro e' ⟨k_1,a_1,h0',rfl⟩
  unfold laws_markCommitS_j1 at h0'
  refine zB ?_
  refine zA ?_
  refine ops H' ?_
  refine zE ?_
  refine zN ?_
  obtain rfl:=zso h0'
  exact zO H' rfl rfl
end Go.TV.KFnExactFileLog
