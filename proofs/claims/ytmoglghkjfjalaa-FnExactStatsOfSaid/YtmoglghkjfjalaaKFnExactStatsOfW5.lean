/- Walks. -/
import Derived.Test.YtmoglghkjfjalaaKFnExactStatsOfE
import Derived.Test.YtmoglghkjfjalaaKFnExactStatsOfW3
import Derived.Test.YtmoglghkjfjalaaKFnExactStatsOfW4
set_option linter.unusedVariables false
set_option linter.unusedSimpArgs false
set_option maxHeartbeats 8000000
set_option maxRecDepth 100000
namespace Go.TV.KFnExactStatsOf
attribute [local irreducible] anyV wpV opsV Does thenV blockV RetL quV seqV
open Go.Proofs.Try Go.TV.F
theorem W_impl_PathOk (path:ByteArray) (r':Bool) (h0':impl_PathOk path=some r'):Fn X 189 [.one (.sc (.string path))] [.one (.sc (.bool r'))] []:=by
 have H':=And.intro t3 (And.intro t5 (t9))
 unfold impl_PathOk at h0'
 refine Fn.start (fn:=f189) (N:=58) (res:=[.tmp 2]) rfl rfl rfl rfl rfl (by simp) ?_
 refine zW H' ?_
 refine zB ?_
 refine zA ?_
 refine ops H' ?_
 refine zF ?_
 refine zU (fun e'=>impl_PathOk_j1 path=some r'∧e'=⟨58,1,1,[(0,.pl (.one (.v (.sc (.string path)))))],[]⟩) ?_ ?_
 ·refine zB ?_
  refine zA ?_
  refine ops H' ?_
  refine zF ?_
  obtain ⟨p,hl',h0'⟩:=zbi h0'
  refine zI ?_
  refine zR (fun i e'=>e'=⟨58,1,1,[(0,.pl (.one (.v (.sc (.string path))))),(3,.pl (.one (.v (.sc (.int .i64 i)))))],[]⟩) hl' (shd [0,3] [] 1 rfl) ?_
  rintro i y1' e' h1' rfl
  replace h1':impl_PathOk_l1 path i=some y1':=h1'
  unfold impl_PathOk_l1 at h1'
  refine zB ?_
  refine zB ?_
  refine zA ?_
  refine ops H' ?_
  refine zF ?_
  refine zH (fun hc'=>?_) (fun hc'=>?_)
  ·replace h1':=(ifT hc').symm.trans h1'
   refine zM ?_
   refine zB ?_
   refine zI ?_
   refine zB ?_
   refine zA ?_
   obtain ⟨x13,hv',h1'⟩:=zbi h1'
   have H':=And.intro (sidx_f hv') H'
   refine ops H' ?_
   refine zF ?_
   refine zB ?_
   refine zA ?_
   refine ops H' ?_
   obtain ⟨b_2,gh1',h1'⟩:=zbi h1'
   refine qE 3 (fun e'=>e'=⟨58,1,1,[(0,.pl (.one (.v (.sc (.string path))))),(3,.pl (.one (.v (.sc (.int .i64 i))))),(4,.pl (.one (.v (.sc (.int .u8 x13))))),(19,.pl (.one (.v (.sc (.bool b_2)))))],[]⟩) ?_ ?_
   ·simp only [List.take_succ_cons,List.take_zero]
    refine qI (fun hc'=>?_) (fun hc'=>?_)
    ·replace gh1':=(ifT hc').symm.trans gh1'
     refine ops H' ?_
     obtain rfl:=zso gh1'
     refine zG ?_
     exact ⟨rfl,shd [0,3,4,19] [] 1 rfl⟩
    ·replace gh1':=(ifF hc').symm.trans gh1'
     refine ops H' ?_
     obtain rfl:=zso gh1'
     refine zG ?_
     exact ⟨rfl,shd [0,3,4,19] [] 1 rfl⟩
   ·rintro e' rfl
    simp only [List.drop_succ_cons,List.drop_zero]
    refine ops H' ?_
    obtain ⟨b_3,gh1',h1'⟩:=zbi h1'
    refine qE 7 (fun e'=>e'=⟨58,1,1,[(0,.pl (.one (.v (.sc (.string path))))),(3,.pl (.one (.v (.sc (.int .i64 i))))),(4,.pl (.one (.v (.sc (.int .u8 x13))))),(27,.pl (.one (.v (.sc (.bool b_3)))))],[]⟩) ?_ ?_
    ·simp only [List.take_succ_cons,List.take_zero]
     refine qI (fun hc'=>?_) (fun hc'=>?_)
     ·replace gh1':=(ifF hc').symm.trans gh1'
      refine ops H' ?_
      obtain ⟨b_4,ggh1',gh1'⟩:=zbi gh1'
      refine qE 3 (fun e'=>e'=⟨58,1,1,[(0,.pl (.one (.v (.sc (.string path))))),(3,.pl (.one (.v (.sc (.int .i64 i))))),(4,.pl (.one (.v (.sc (.int .u8 x13))))),(20,.pl (.one (.v (.sc (.bool false))))),(21,.pl (.one (.v (.sc (.int .u8 x13))))),(22,.pl (.one (.v (.sc (.bool (decide (x13≥48))))))),(26,.pl (.one (.v (.sc (.bool b_4)))))],[]⟩) ?_ ?_
      ·simp only [List.take_succ_cons,List.take_zero]
       refine qI (fun hc'=>?_) (fun hc'=>?_)
       ·replace ggh1':=(ifT hc').symm.trans ggh1'
        refine ops H' ?_
        obtain rfl:=zso ggh1'
        refine zG ?_
        exact ⟨rfl,shd [0,3,4,20,21,22,26] [] 1 rfl⟩
       ·replace ggh1':=(ifF hc').symm.trans ggh1'
        refine ops H' ?_
        obtain rfl:=zso ggh1'
        refine zG ?_
        exact ⟨rfl,shd [0,3,4,20,21,22,26] [] 1 rfl⟩
      ·rintro e' rfl
       simp only [List.drop_succ_cons,List.drop_zero]
       refine ops H' ?_
       obtain rfl:=zso gh1'
       refine zG ?_
       exact ⟨rfl,shd [0,3,4,27] [] 1 rfl⟩
     ·replace gh1':=(ifT hc').symm.trans gh1'
      refine ops H' ?_
      obtain rfl:=zso gh1'
      refine zG ?_
      exact ⟨rfl,shd [0,3,4,27] [] 1 rfl⟩
    ·rintro e' rfl
     simp only [List.drop_succ_cons,List.drop_zero]
     refine ops H' ?_
     obtain ⟨b_5,gh1',h1'⟩:=zbi h1'
     refine qE 3 (fun e'=>e'=⟨58,1,1,[(0,.pl (.one (.v (.sc (.string path))))),(3,.pl (.one (.v (.sc (.int .i64 i))))),(4,.pl (.one (.v (.sc (.int .u8 x13))))),(31,.pl (.one (.v (.sc (.bool b_5)))))],[]⟩) ?_ ?_
     ·simp only [List.take_succ_cons,List.take_zero]
      refine qI (fun hc'=>?_) (fun hc'=>?_)
      ·replace gh1':=(ifF hc').symm.trans gh1'
       refine ops H' ?_
       obtain rfl:=zso gh1'
       refine zG ?_
       exact ⟨rfl,shd [0,3,4,31] [] 1 rfl⟩
      ·replace gh1':=(ifT hc').symm.trans gh1'
       refine ops H' ?_
       obtain rfl:=zso gh1'
       refine zG ?_
       exact ⟨rfl,shd [0,3,4,31] [] 1 rfl⟩
     ·rintro e' rfl
      simp only [List.drop_succ_cons,List.drop_zero]
      refine ops H' ?_
      obtain ⟨b_6,gh1',h1'⟩:=zbi h1'
      refine qE 3 (fun e'=>e'=⟨58,1,1,[(0,.pl (.one (.v (.sc (.string path))))),(3,.pl (.one (.v (.sc (.int .i64 i))))),(4,.pl (.one (.v (.sc (.int .u8 x13))))),(35,.pl (.one (.v (.sc (.bool b_6)))))],[]⟩) ?_ ?_
      ·simp only [List.take_succ_cons,List.take_zero]
       refine qI (fun hc'=>?_) (fun hc'=>?_)
       ·replace gh1':=(ifF hc').symm.trans gh1'
        refine ops H' ?_
        obtain rfl:=zso gh1'
        refine zG ?_
        exact ⟨rfl,shd [0,3,4,35] [] 1 rfl⟩
       ·replace gh1':=(ifT hc').symm.trans gh1'
        refine ops H' ?_
        obtain rfl:=zso gh1'
        refine zG ?_
        exact ⟨rfl,shd [0,3,4,35] [] 1 rfl⟩
      ·rintro e' rfl
       simp only [List.drop_succ_cons,List.drop_zero]
       refine ops H' ?_
       obtain ⟨b_7,gh1',h1'⟩:=zbi h1'
       refine qE 3 (fun e'=>e'=⟨58,1,1,[(0,.pl (.one (.v (.sc (.string path))))),(3,.pl (.one (.v (.sc (.int .i64 i))))),(39,.pl (.one (.v (.sc (.bool b_7)))))],[]⟩) ?_ ?_
       ·simp only [List.take_succ_cons,List.take_zero]
        refine qI (fun hc'=>?_) (fun hc'=>?_)
        ·replace gh1':=(ifF hc').symm.trans gh1'
         refine ops H' ?_
         obtain rfl:=zso gh1'
         refine zG ?_
         exact ⟨rfl,shd [0,3,39] [] 1 rfl⟩
        ·replace gh1':=(ifT hc').symm.trans gh1'
         refine ops H' ?_
         obtain rfl:=zso gh1'
         refine zG ?_
         exact ⟨rfl,shd [0,3,39] [] 1 rfl⟩
       ·rintro e' rfl
        simp only [List.drop_succ_cons,List.drop_zero]
        refine ops H' ?_
        refine zF ?_
        refine zH (fun hc'=>?_) (fun hc'=>?_)
        ·replace h1':=(ifT hc').symm.trans h1'
         refine zB ?_
         refine zA ?_
         refine ops H' ?_
         refine zF ?_
         refine zN ?_
         obtain rfl:=zso h1'
         refine ⟨_,rfl,fun hr'=>?_⟩
         subst hr'
         obtain rfl:=zso h0'
         exact zP H' rfl rfl
        ·replace h1':=(ifF hc').symm.trans h1'
         refine zM ?_
         refine zA ?_
         refine ops H' ?_
         refine zF ?_
         obtain rfl:=zso h1'
         exact shd [0,3] [] 1 ⟨_,rfl,rfl⟩
  ·replace h1':=(ifF hc').symm.trans h1'
   refine qJ ?_
   obtain rfl:=zso h1'
   refine ⟨_,rfl,fun hr'=>?_⟩
   subst hr'
   exact shd [0] [] 1 ⟨h0',rfl⟩
 ·rintro e' ⟨h0',rfl⟩
  unfold impl_PathOk_j1 at h0'
  refine zB ?_
  refine zB ?_
  refine zA ?_
  refine ops H' ?_
  obtain ⟨x43,hy',h0'⟩:=zbi h0'
  refine zY H' (fun _=>[]) (W_impl_inRange _ _ _ _ hy') ?_
  refine ops H' ?_
  refine zF ?_
  refine zH (fun hc'=>?_) (fun hc'=>?_)
  ·replace h0':=(ifT hc').symm.trans h0'
   refine zB ?_
   refine zA ?_
   refine ops H' ?_
   refine zF ?_
   refine zN ?_
   obtain rfl:=zso h0'
   exact zP H' rfl rfl
  ·replace h0':=(ifF hc').symm.trans h0'
   refine zM ?_
   refine zB ?_
   refine zA ?_
   refine ops H' ?_
   obtain ⟨x46,hy',h0'⟩:=zbi h0'
   refine zY H' (fun _=>[]) (W_strings_HasPrefix _ _ _ hy') ?_
   refine ops H' ?_
   obtain ⟨b,gh0',h0'⟩:=zbi h0'
   refine qE 4 (fun e'=>e'=⟨58,1,1,[(0,.pl (.one (.v (.sc (.string path))))),(52,.pl (.one (.v (.sc (.bool b)))))],[]⟩) ?_ ?_
   ·simp only [List.take_succ_cons,List.take_zero]
    refine qI (fun hc'=>?_) (fun hc'=>?_)
    ·replace gh0':=(ifT hc').symm.trans gh0'
     refine ops H' ?_
     obtain ⟨x50,hy',gh0'⟩:=zbi gh0'
     refine zY H' (fun _=>[]) (W_strings_HasSuffix _ _ _ hy') ?_
     refine ops H' ?_
     obtain rfl:=zso gh0'
     refine zG ?_
     exact ⟨rfl,shd [0,52] [] 1 rfl⟩
    ·replace gh0':=(ifF hc').symm.trans gh0'
     refine ops H' ?_
     obtain rfl:=zso gh0'
     refine zG ?_
     exact ⟨rfl,shd [0,52] [] 1 rfl⟩
   ·rintro e' rfl
    simp only [List.drop_succ_cons,List.drop_zero]
    refine ops H' ?_
    obtain ⟨b_1,gh0',h0'⟩:=zbi h0'
    refine qE 4 (fun e'=>e'=⟨58,1,1,[(57,.pl (.one (.v (.sc (.bool b_1)))))],[]⟩) ?_ ?_
    ·simp only [List.take_succ_cons,List.take_zero]
     refine qI (fun hc'=>?_) (fun hc'=>?_)
     ·replace gh0':=(ifT hc').symm.trans gh0'
      refine ops H' ?_
      obtain ⟨x55,hy',gh0'⟩:=zbi gh0'
      refine zY H' (fun _=>[]) (W_strings_Contains _ _ _ hy') ?_
      refine ops H' ?_
      obtain rfl:=zso gh0'
      refine zG ?_
      exact ⟨rfl,shd [57] [] 1 rfl⟩
     ·replace gh0':=(ifF hc').symm.trans gh0'
      refine ops H' ?_
      obtain rfl:=zso gh0'
      refine zG ?_
      exact ⟨rfl,shd [57] [] 1 rfl⟩
    ·rintro e' rfl
     simp only [List.drop_succ_cons,List.drop_zero]
     refine ops H' ?_
     refine zF ?_
     refine zN ?_
     obtain rfl:=zso h0'
     exact zP H' rfl rfl
theorem W_impl_idAt_c1 (n:T_impl_Name) (c:Int) (r':Bool) (h0':impl_idAt_c1 n c=some r'):Fn X 198 [.agg [.sc (.string n.Path),.sc (.int .i64 n.Id),.sc (.int .i64 n.Version)],.one (.box false [.sc (.int .i64 c)])] [.one (.sc (.bool r'))] []:=by
 have H':=And.intro t3 (t204)
 unfold impl_idAt_c1 at h0'
 refine Fn.start (fn:=f198) (N:=8) (res:=[.tmp 3]) rfl rfl rfl rfl rfl (by simp) ?_
 refine zW H' ?_
 refine zB ?_
 refine zA ?_
 refine ops H' ?_
 refine zF ?_
 refine zB ?_
 refine zA ?_
 refine ops H' ?_
 refine zF ?_
 refine zN ?_
 obtain rfl:=zso h0'
 exact zP H' rfl rfl
theorem W_slices_IndexFunc_impl_Name_impl_Name__1 (s:List T_impl_Name) (f:T_impl_Name→Option Bool) (f_f:Nat) (f_c0:V) (f_h:∀ (z0':T_impl_Name) r',f z0'=some r'→Fn X f_f [.agg [.sc (.string z0'.Path),.sc (.int .i64 z0'.Id),.sc (.int .i64 z0'.Version)],.one (f_c0)] [.one (.sc (.bool r'))] []) (r':Int) (h0':qY s f=some r'):Fn X 197 [.one (.list false 3 (List.map (zL false) s)),.one (.fn f_f [f_c0])] [.one (.sc (.int .i64 r'))] []:=by
 have H':=And.intro t3 (And.intro t181 (And.intro t204 (qM)))
 unfold qY at h0'
 refine Fn.start (fn:=f197) (N:=19) (res:=[.tmp 4]) rfl rfl rfl rfl rfl (by simp) ?_
 refine zW H' ?_
 refine zB ?_
 refine zA ?_
 refine ops H' ?_
 refine zF ?_
 refine zU (fun e'=>jF=some r'∧e'=⟨19,2,2,[],[]⟩) ?_ ?_
 ·refine zB ?_
  refine zA ?_
  refine ops H' ?_
  refine zF ?_
  obtain ⟨p,hl',h0'⟩:=zbi h0'
  refine zI ?_
  refine zR (fun x8 e'=>e'=⟨19,2,2,[(0,.pl (.one (.v (.list false 3 (List.map (zL false) s))))),(1,.pl (.one (.v (.fn f_f [f_c0])))),(7,.pl (.one (.v (.sc (.int .i64 (s.length:Int)))))),(8,.pl (.one (.v (.sc (.int .i64 x8)))))],[]⟩) hl' (shd [0,1,7,8] [] 2 rfl) ?_
  rintro x8 y1' e' h1' rfl
  replace h1':qR s f x8=some y1':=h1'
  unfold qR at h1'
  refine zB ?_
  refine zA ?_
  refine ops H' ?_
  refine zF ?_
  refine zB ?_
  refine zH (fun hc'=>?_) (fun hc'=>?_)
  ·replace h1':=(ifT hc').symm.trans h1'
   refine zM ?_
   refine zB ?_
   refine zI ?_
   refine zB ?_
   refine zA ?_
   refine ops H' ?_
   refine zF ?_
   refine zB ?_
   refine zA ?_
   obtain ⟨x,hv',h1'⟩:=zbi h1'
   have H':=And.intro (zS hv') H'
   refine ops H' ?_
   obtain ⟨x16,hy',h1'⟩:=zbi h1'
   refine zY H' (fun _=>[]) (f_h _ _ hy') ?_
   refine zF ?_
   refine zH (fun hc'=>?_) (fun hc'=>?_)
   ·replace h1':=(ifT hc').symm.trans h1'
    refine zB ?_
    refine zA ?_
    refine ops H' ?_
    refine zF ?_
    refine zN ?_
    obtain rfl:=zso h1'
    refine ⟨_,rfl,fun hr'=>?_⟩
    subst hr'
    obtain rfl:=zso h0'
    exact zP H' rfl rfl
   ·replace h1':=(ifF hc').symm.trans h1'
    refine zM ?_
    refine zA ?_
    refine ops H' ?_
    refine zF ?_
    obtain rfl:=zso h1'
    exact shd [0,1,7,8] [] 2 ⟨_,rfl,rfl⟩
  ·replace h1':=(ifF hc').symm.trans h1'
   refine qJ ?_
   obtain rfl:=zso h1'
   refine ⟨_,rfl,fun hr'=>?_⟩
   subst hr'
   exact shd [] [] 2 ⟨h0',rfl⟩
 ·rintro e' ⟨h0',rfl⟩
  unfold jF at h0'
  refine zB ?_
  refine zA ?_
  refine ops H' ?_
  refine zF ?_
  refine zN ?_
  obtain rfl:=zso h0'
  exact zP H' rfl rfl
theorem W_impl_idAt (list_:List T_impl_Name) (id:Int) (r':Int) (h0':impl_idAt list_ id=some r'):Fn X 190 [.one (.list false 3 (List.map (zL false) list_)),.one (.sc (.int .i64 id))] [.one (.sc (.int .i64 r'))] []:=by
 have H':=qM
 unfold impl_idAt at h0'
 refine Fn.start (fn:=f190) (N:=8) (res:=[.tmp 4]) rfl rfl rfl rfl rfl (by simp) ?_
 refine zW H' ?_
 refine zB ?_
 refine zA ?_
 refine ops H' ?_
 refine zF ?_
 refine zB ?_
 refine zA ?_
 refine ops H' ?_
 refine opsV_frz H' 2 ?_
 refine opsV_mkF H' ?_
 obtain ⟨x7,hy',h0'⟩:=zbi h0'
 refine zY H' (fun _=>[]) (W_slices_IndexFunc_impl_Name_impl_Name__1 _ (fun z0'=>impl_idAt_c1 z0' id) _ _ (fun z0' r' h'=>W_impl_idAt_c1 z0' _ r' h') _ hy') ?_
 refine ops H' ?_
 refine zF ?_
 refine zN ?_
 obtain rfl:=zso h0'
 exact zP H' rfl rfl
theorem W_impl_NamesOk (list_:List T_impl_Name) (r':Bool) (h0':impl_NamesOk list_=some r'):Fn X 171 [.one (.list false 3 (List.map (zL false) list_))] [.one (.sc (.bool r'))] []:=by
 have H':=And.intro t3 (And.intro t9 (And.intro t181 (And.intro t204 (qM))))
 unfold impl_NamesOk at h0'
 refine Fn.start (fn:=f171) (N:=53) (res:=[.tmp 2]) rfl rfl rfl rfl rfl (by simp) ?_
 refine zW H' ?_
 refine zB ?_
 refine zA ?_
 refine ops H' ?_
 refine zF ?_
 refine zB ?_
 refine zB ?_
 refine zA ?_
 refine ops H' ?_
 refine zF ?_
 refine zH (fun hc'=>?_) (fun hc'=>?_)
 ·replace h0':=(ifT hc').symm.trans h0'
  refine zB ?_
  refine zA ?_
  refine ops H' ?_
  refine zF ?_
  refine zN ?_
  obtain rfl:=zso h0'
  exact zP H' rfl rfl
 ·replace h0':=(ifF hc').symm.trans h0'
  refine zM ?_
  refine zU (fun e'=>impl_NamesOk_j1=some r'∧e'=⟨53,1,1,[],[]⟩) ?_ ?_
  ·refine zB ?_
   refine zA ?_
   refine ops H' ?_
   refine zF ?_
   obtain ⟨p,hl',h0'⟩:=zbi h0'
   refine zI ?_
   refine zR (fun x10 e'=>e'=⟨53,1,1,[(0,.pl (.one (.v (.list false 3 (List.map (zL false) list_))))),(8,.pl (.one (.v (.list false 3 (List.map (zL false) list_))))),(9,.pl (.one (.v (.sc (.int .i64 (list_.length:Int)))))),(10,.pl (.one (.v (.sc (.int .i64 x10)))))],[]⟩) hl' (shd [0,8,9,10] [] 1 rfl) ?_
   rintro x10 y1' e' h1' rfl
   replace h1':impl_NamesOk_l1 list_ x10=some y1':=h1'
   unfold impl_NamesOk_l1 at h1'
   refine zB ?_
   refine zA ?_
   refine ops H' ?_
   refine zF ?_
   refine zB ?_
   refine zH (fun hc'=>?_) (fun hc'=>?_)
   ·replace h1':=(ifT hc').symm.trans h1'
    refine zM ?_
    refine zB ?_
    refine zI ?_
    refine zB ?_
    refine zA ?_
    obtain ⟨x,hv',h1'⟩:=zbi h1'
    have H':=And.intro (zS hv') H'
    refine ops H' ?_
    refine zF ?_
    refine zB ?_
    refine zB ?_
    refine zA ?_
    refine ops H' ?_
    obtain ⟨x17,hy',h1'⟩:=zbi h1'
    refine zY H' (fun _=>[]) (W_impl_PathOk _ _ hy') ?_
    refine ops H' ?_
    obtain ⟨b,gh1',h1'⟩:=zbi h1'
    refine qE 5 (fun e'=>e'=⟨53,1,2,[(0,.pl (.one (.v (.list false 3 (List.map (zL false) list_))))),(3,.pl (.one (.v (.sc (.int .i64 x10))))),(4,.pl (.one (.ref 1 []))),(8,.pl (.one (.v (.list false 3 (List.map (zL false) list_))))),(9,.pl (.one (.v (.sc (.int .i64 (list_.length:Int)))))),(10,.pl (.one (.v (.sc (.int .i64 x10))))),(24,.pl (.one (.v (.sc (.bool b)))))],[(1,.box true [.sc (.string x.Path),.sc (.int .i64 x.Id),.sc (.int .i64 x.Version)])]⟩) ?_ ?_
    ·simp only [List.take_succ_cons,List.take_zero]
     refine qI (fun hc'=>?_) (fun hc'=>?_)
     ·replace gh1':=(ifF hc').symm.trans gh1'
      refine ops H' ?_
      obtain ⟨x22,hy',gh1'⟩:=zbi gh1'
      refine zY H' (fun _=>[]) (W_impl_inRange _ _ _ _ hy') ?_
      refine ops H' ?_
      obtain rfl:=zso gh1'
      refine zG ?_
      exact ⟨rfl,shd [0,3,4,8,9,10,24] [(1,1)] 2 rfl⟩
     ·replace gh1':=(ifT hc').symm.trans gh1'
      refine ops H' ?_
      obtain rfl:=zso gh1'
      refine zG ?_
      exact ⟨rfl,shd [0,3,4,8,9,10,24] [(1,1)] 2 rfl⟩
    ·rintro e' rfl
     simp only [List.drop_succ_cons,List.drop_zero]
     refine ops H' ?_
     obtain ⟨b_1,gh1',h1'⟩:=zbi h1'
     refine qE 5 (fun e'=>e'=⟨53,1,2,[(0,.pl (.one (.v (.list false 3 (List.map (zL false) list_))))),(3,.pl (.one (.v (.sc (.int .i64 x10))))),(4,.pl (.one (.ref 1 []))),(8,.pl (.one (.v (.list false 3 (List.map (zL false) list_))))),(9,.pl (.one (.v (.sc (.int .i64 (list_.length:Int)))))),(10,.pl (.one (.v (.sc (.int .i64 x10))))),(30,.pl (.one (.v (.sc (.bool b_1)))))],[(1,.box true [.sc (.string x.Path),.sc (.int .i64 x.Id),.sc (.int .i64 x.Version)])]⟩) ?_ ?_
     ·simp only [List.take_succ_cons,List.take_zero]
      refine qI (fun hc'=>?_) (fun hc'=>?_)
      ·replace gh1':=(ifF hc').symm.trans gh1'
       refine ops H' ?_
       obtain ⟨x28,hy',gh1'⟩:=zbi gh1'
       refine zY H' (fun _=>[]) (W_impl_inRange _ _ _ _ hy') ?_
       refine ops H' ?_
       obtain rfl:=zso gh1'
       refine zG ?_
       exact ⟨rfl,shd [0,3,4,8,9,10,30] [(1,1)] 2 rfl⟩
      ·replace gh1':=(ifT hc').symm.trans gh1'
       refine ops H' ?_
       obtain rfl:=zso gh1'
       refine zG ?_
       exact ⟨rfl,shd [0,3,4,8,9,10,30] [(1,1)] 2 rfl⟩
     ·rintro e' rfl
      simp only [List.drop_succ_cons,List.drop_zero]
      refine zF ?_
      refine zH (fun hc'=>?_) (fun hc'=>?_)
      ·replace h1':=(ifT hc').symm.trans h1'
       refine zB ?_
       refine zA ?_
       refine ops H' ?_
       refine zF ?_
       refine zN ?_
       obtain rfl:=zso h1'
       refine ⟨_,rfl,fun hr'=>?_⟩
       subst hr'
       obtain rfl:=zso h0'
       exact zP H' rfl rfl
      ·replace h1':=(ifF hc').symm.trans h1'
       refine zM ?_
       refine zB ?_
       refine regQ ?_
       refine ops H' ?_
       obtain ⟨b_2,gh1',h1'⟩:=zbi h1'
       refine quV_cut 10 (fun e'=>e'=⟨53,1,2,[(0,.pl (.one (.v (.list false 3 (List.map (zL false) list_))))),(3,.pl (.one (.v (.sc (.int .i64 x10))))),(4,.pl (.one (.ref 1 []))),(8,.pl (.one (.v (.list false 3 (List.map (zL false) list_))))),(9,.pl (.one (.v (.sc (.int .i64 (list_.length:Int)))))),(10,.pl (.one (.v (.sc (.int .i64 x10))))),(43,.pl (.one (.v (.sc (.bool b_2)))))],[(1,.box true [.sc (.string x.Path),.sc (.int .i64 x.Id),.sc (.int .i64 x.Version)])]⟩) ?_ ?_
       ·simp only [List.take_succ_cons,List.take_zero]
        refine quV_sp (fun hc'=>?_) (fun hc'=>?_)
        ·replace gh1':=(ifT hc').symm.trans gh1'
         obtain ⟨x_1,hv',gh1'⟩:=zbi gh1'
         have H':=And.intro (zS hv') H'
         refine ops H' ?_
         obtain rfl:=zso gh1'
         refine qQ ?_
         exact ⟨rfl,shd [0,3,4,8,9,10,43] [(1,1)] 2 rfl⟩
        ·replace gh1':=(ifF hc').symm.trans gh1'
         refine ops H' ?_
         obtain rfl:=zso gh1'
         refine qQ ?_
         exact ⟨rfl,shd [0,3,4,8,9,10,43] [(1,1)] 2 rfl⟩
       ·rintro e' rfl
        simp only [List.drop_succ_cons,List.drop_zero]
        refine ops H' ?_
        obtain ⟨b_3,gh1',h1'⟩:=zbi h1'
        refine quV_cut 7 (fun e'=>e'=⟨53,1,1,[(0,.pl (.one (.v (.list false 3 (List.map (zL false) list_))))),(8,.pl (.one (.v (.list false 3 (List.map (zL false) list_))))),(9,.pl (.one (.v (.sc (.int .i64 (list_.length:Int)))))),(10,.pl (.one (.v (.sc (.int .i64 x10))))),(51,.pl (.one (.v (.sc (.bool b_3)))))],[]⟩) ?_ ?_
        ·simp only [List.take_succ_cons,List.take_zero]
         refine quV_sp (fun hc'=>?_) (fun hc'=>?_)
         ·replace gh1':=(ifF hc').symm.trans gh1'
          refine ops H' ?_
          obtain ⟨x48,hy',gh1'⟩:=zbi gh1'
          refine callGQ H' (W_impl_idAt _ _ _ hy') ?_
          refine ops H' ?_
          obtain rfl:=zso gh1'
          refine qQ ?_
          exact ⟨rfl,shd [0,8,9,10,51] [] 1 rfl⟩
         ·replace gh1':=(ifT hc').symm.trans gh1'
          refine ops H' ?_
          obtain rfl:=zso gh1'
          refine qQ ?_
          exact ⟨rfl,shd [0,8,9,10,51] [] 1 rfl⟩
        ·rintro e' rfl
         simp only [List.drop_succ_cons,List.drop_zero]
         refine quN ?_
         refine zH (fun hc'=>?_) (fun hc'=>?_)
         ·replace h1':=(ifT hc').symm.trans h1'
          refine zB ?_
          refine zA ?_
          refine ops H' ?_
          refine zF ?_
          refine zN ?_
          obtain rfl:=zso h1'
          refine ⟨_,rfl,fun hr'=>?_⟩
          subst hr'
          obtain rfl:=zso h0'
          exact zP H' rfl rfl
         ·replace h1':=(ifF hc').symm.trans h1'
          refine zM ?_
          refine zA ?_
          refine ops H' ?_
          refine zF ?_
          obtain rfl:=zso h1'
          exact shd [0,8,9,10] [] 1 ⟨_,rfl,rfl⟩
   ·replace h1':=(ifF hc').symm.trans h1'
    refine qJ ?_
    obtain rfl:=zso h1'
    refine ⟨_,rfl,fun hr'=>?_⟩
    subst hr'
    exact shd [] [] 1 ⟨h0',rfl⟩
  ·rintro e' ⟨h0',rfl⟩
   unfold impl_NamesOk_j1 at h0'
   refine zB ?_
   refine zA ?_
   refine ops H' ?_
   refine zF ?_
   refine zN ?_
   obtain rfl:=zso h0'
   exact zP H' rfl rfl
theorem W_impl_CommitsOk (list_:List T_impl_Commit) (versions:List Int) (r':Bool) (h0':impl_CommitsOk list_ versions=some r'):Fn X 140 [.one (.list false 3 (List.map (zD false) list_)),.one (.list false 1 (List.map (rK .i64) versions))] [.one (.sc (.bool r'))] []:=by
 have H':=And.intro t3 (And.intro t9 (And.intro t43 (And.intro t60 (And.intro t181 (And.intro t183 (And.intro t204 (And.intro R_Li64 (And.intro qP (And.intro qM (R_i64))))))))))
 unfold impl_CommitsOk at h0'
 refine Fn.start (fn:=f140) (N:=75) (res:=[.tmp 4]) rfl rfl rfl rfl rfl (by simp) ?_
 refine zW H' ?_
 refine zB ?_
 refine zA ?_
 refine ops H' ?_
 refine zF ?_
 refine zB ?_
 refine zB ?_
 refine zA ?_
 refine ops H' ?_
 obtain ⟨b,gh0',h0'⟩:=zbi h0'
 refine qE 5 (fun e'=>e'=⟨75,2,2,[(0,.pl (.one (.v (.list false 3 (List.map (zD false) list_))))),(1,.pl (.one (.v (.list false 1 (List.map (rK .i64) versions))))),(19,.pl (.one (.v (.sc (.bool b)))))],[]⟩) ?_ ?_
 ·simp only [List.take_succ_cons,List.take_zero]
  refine qI (fun hc'=>?_) (fun hc'=>?_)
  ·replace gh0':=(ifF hc').symm.trans gh0'
   refine ops H' ?_
   obtain ⟨x16,hy',gh0'⟩:=zbi gh0'
   refine callGD H' (fun _=>[]) (W_impl_graphOf _ _ hy') ?_
   refine ops H' ?_
   obtain ⟨x17,hy',gh0'⟩:=zbi gh0'
   refine zY H' (fun _=>[]) (W_impl_GraphOk _ _ hy') ?_
   refine ops H' ?_
   obtain rfl:=zso gh0'
   refine zG ?_
   exact ⟨rfl,shd [0,1,19] [] 2 rfl⟩
  ·replace gh0':=(ifT hc').symm.trans gh0'
   refine ops H' ?_
   obtain rfl:=zso gh0'
   refine zG ?_
   exact ⟨rfl,shd [0,1,19] [] 2 rfl⟩
 ·rintro e' rfl
  simp only [List.drop_succ_cons,List.drop_zero]
  refine ops H' ?_
  obtain ⟨b_1,gh0',h0'⟩:=zbi h0'
  refine qE 4 (fun e'=>e'=⟨75,2,2,[(0,.pl (.one (.v (.list false 3 (List.map (zD false) list_))))),(1,.pl (.one (.v (.list false 1 (List.map (rK .i64) versions))))),(24,.pl (.one (.v (.sc (.bool b_1)))))],[]⟩) ?_ ?_
  ·simp only [List.take_succ_cons,List.take_zero]
   refine qI (fun hc'=>?_) (fun hc'=>?_)
   ·replace gh0':=(ifF hc').symm.trans gh0'
    refine ops H' ?_
    obtain rfl:=zso gh0'
    refine zG ?_
    exact ⟨rfl,shd [0,1,24] [] 2 rfl⟩
   ·replace gh0':=(ifT hc').symm.trans gh0'
    refine ops H' ?_
    obtain rfl:=zso gh0'
    refine zG ?_
    exact ⟨rfl,shd [0,1,24] [] 2 rfl⟩
  ·rintro e' rfl
   simp only [List.drop_succ_cons,List.drop_zero]
   refine zF ?_
   refine zH (fun hc'=>?_) (fun hc'=>?_)
   ·replace h0':=(ifT hc').symm.trans h0'
    refine zB ?_
    refine zA ?_
    refine ops H' ?_
    refine zF ?_
    refine zN ?_
    obtain rfl:=zso h0'
    exact zP H' rfl rfl
   ·replace h0':=(ifF hc').symm.trans h0'
    refine zM ?_
    refine zU (fun e'=>impl_CommitsOk_j1 list_ versions=some r'∧e'=⟨75,2,2,[(0,.pl (.one (.v (.list false 3 (List.map (zD false) list_))))),(1,.pl (.one (.v (.list false 1 (List.map (rK .i64) versions)))))],[]⟩) ?_ ?_
    ·refine zB ?_
     refine zA ?_
     refine ops H' ?_
     refine zF ?_
     obtain ⟨p_2,hl',h0'⟩:=zbi h0'
     refine zI ?_
     refine zR (fun x27 e'=>e'=⟨75,2,2,[(0,.pl (.one (.v (.list false 3 (List.map (zD false) list_))))),(1,.pl (.one (.v (.list false 1 (List.map (rK .i64) versions))))),(25,.pl (.one (.v (.list false 1 (List.map (rK .i64) versions))))),(26,.pl (.one (.v (.sc (.int .i64 (versions.length:Int)))))),(27,.pl (.one (.v (.sc (.int .i64 x27)))))],[]⟩) hl' (shd [0,1,25,26,27] [] 2 rfl) ?_
     rintro x27 y1' e' h1' rfl
     replace h1':impl_CommitsOk_l3 versions x27=some y1':=h1'
     unfold impl_CommitsOk_l3 at h1'
     refine zB ?_
     refine zA ?_
     refine ops H' ?_
     refine zF ?_
     refine zB ?_
     refine zH (fun hc'=>?_) (fun hc'=>?_)
     ·replace h1':=(ifT hc').symm.trans h1'
      refine zM ?_
      refine zB ?_
      refine zI ?_
      refine zB ?_
      refine zA ?_
      obtain ⟨x_3,hv',h1'⟩:=zbi h1'
      have H':=And.intro (zS hv') H'
      refine ops H' ?_
      refine zF ?_
      refine zB ?_
      refine zA ?_
      refine ops H' ?_
      obtain ⟨x32,hy',h1'⟩:=zbi h1'
      refine zY H' (fun _=>[]) (W_impl_inRange _ _ _ _ hy') ?_
      refine ops H' ?_
      refine zF ?_
      refine zH (fun hc'=>?_) (fun hc'=>?_)
      ·replace h1':=(ifT hc').symm.trans h1'
       refine zB ?_
       refine zA ?_
       refine ops H' ?_
       refine zF ?_
       refine zN ?_
       obtain rfl:=zso h1'
       refine ⟨_,rfl,fun hr'=>?_⟩
       subst hr'
       obtain rfl:=zso h0'
       exact zP H' rfl rfl
      ·replace h1':=(ifF hc').symm.trans h1'
       refine zM ?_
       refine zA ?_
       refine ops H' ?_
       refine zF ?_
       obtain rfl:=zso h1'
       exact shd [0,1,25,26,27] [] 2 ⟨_,rfl,rfl⟩
     ·replace h1':=(ifF hc').symm.trans h1'
      refine qJ ?_
      obtain rfl:=zso h1'
      refine ⟨_,rfl,fun hr'=>?_⟩
      subst hr'
      exact shd [0,1] [] 2 ⟨h0',rfl⟩
    ·rintro e' ⟨h0',rfl⟩
     unfold impl_CommitsOk_j1 at h0'
     refine zU (fun e'=>impl_CommitsOk_j2=some r'∧e'=⟨75,2,2,[],[]⟩) ?_ ?_
     ·refine zB ?_
      refine zA ?_
      refine ops H' ?_
      refine zF ?_
      obtain ⟨p,hl',h0'⟩:=zbi h0'
      refine zI ?_
      refine zR (fun x37 e'=>e'=⟨75,2,2,[(1,.pl (.one (.v (.list false 1 (List.map (rK .i64) versions))))),(35,.pl (.one (.v (.list false 3 (List.map (zD false) list_))))),(36,.pl (.one (.v (.sc (.int .i64 (list_.length:Int)))))),(37,.pl (.one (.v (.sc (.int .i64 x37)))))],[]⟩) hl' (shd [1,35,36,37] [] 2 rfl) ?_
      rintro x37 y1' e' h1' rfl
      replace h1':impl_CommitsOk_l1 list_ versions x37=some y1':=h1'
      unfold impl_CommitsOk_l1 at h1'
      refine zB ?_
      refine zA ?_
      refine ops H' ?_
      refine zF ?_
      refine zB ?_
      refine zH (fun hc'=>?_) (fun hc'=>?_)
      ·replace h1':=(ifT hc').symm.trans h1'
       refine zM ?_
       refine zU (fun e'=>impl_CommitsOk_j3 x37=some y1'∧e'=⟨75,2,2,[(1,.pl (.one (.v (.list false 1 (List.map (rK .i64) versions))))),(35,.pl (.one (.v (.list false 3 (List.map (zD false) list_))))),(36,.pl (.one (.v (.sc (.int .i64 (list_.length:Int)))))),(37,.pl (.one (.v (.sc (.int .i64 x37)))))],[]⟩) ?_ ?_
       ·refine zI ?_
        refine zB ?_
        refine zA ?_
        obtain ⟨x,hv',h1'⟩:=zbi h1'
        have H':=And.intro (zS hv') H'
        refine ops H' ?_
        refine zF ?_
        refine zB ?_
        refine zB ?_
        refine zA ?_
        refine ops H' ?_
        obtain ⟨x43,hy',h1'⟩:=zbi h1'
        refine zY H' (fun _=>[]) (W_impl_NoteOk _ _ hy') ?_
        refine ops H' ?_
        obtain ⟨b_2,gh1',h1'⟩:=zbi h1'
        refine qE 5 (fun e'=>e'=⟨75,2,3,[(1,.pl (.one (.v (.list false 1 (List.map (rK .i64) versions))))),(8,.pl (.one (.ref 2 []))),(35,.pl (.one (.v (.list false 3 (List.map (zD false) list_))))),(36,.pl (.one (.v (.sc (.int .i64 (list_.length:Int)))))),(37,.pl (.one (.v (.sc (.int .i64 x37))))),(50,.pl (.one (.v (.sc (.bool b_2)))))],[(2,.box true [.list false 1 (List.map (rK .i64) x.Parents),.sc (.string x.Note),.list false 3 (List.map (zL false) x.Names)])]⟩) ?_ ?_
        ·simp only [List.take_succ_cons,List.take_zero]
         refine qI (fun hc'=>?_) (fun hc'=>?_)
         ·replace gh1':=(ifF hc').symm.trans gh1'
          refine ops H' ?_
          obtain ⟨x48,hy',gh1'⟩:=zbi gh1'
          refine zY H' (fun _=>[]) (W_impl_NamesOk _ _ hy') ?_
          refine ops H' ?_
          obtain rfl:=zso gh1'
          refine zG ?_
          exact ⟨rfl,shd [1,8,35,36,37,50] [(2,2)] 3 rfl⟩
         ·replace gh1':=(ifT hc').symm.trans gh1'
          refine ops H' ?_
          obtain rfl:=zso gh1'
          refine zG ?_
          exact ⟨rfl,shd [1,8,35,36,37,50] [(2,2)] 3 rfl⟩
        ·rintro e' rfl
         simp only [List.drop_succ_cons,List.drop_zero]
         refine zF ?_
         refine zH (fun hc'=>?_) (fun hc'=>?_)
         ·replace h1':=(ifT hc').symm.trans h1'
          refine zB ?_
          refine zA ?_
          refine ops H' ?_
          refine zF ?_
          refine zN ?_
          obtain rfl:=zso h1'
          refine ⟨_,rfl,fun hr'=>?_⟩
          subst hr'
          obtain rfl:=zso h0'
          exact zP H' rfl rfl
         ·replace h1':=(ifF hc').symm.trans h1'
          refine zM ?_
          refine zB ?_
          refine zA ?_
          refine ops H' ?_
          refine zF ?_
          obtain ⟨p_1,hl',h1'⟩:=zbi h1'
          refine zI ?_
          refine zR (fun x54 e'=>e'=⟨75,2,2,[(1,.pl (.one (.v (.list false 1 (List.map (rK .i64) versions))))),(35,.pl (.one (.v (.list false 3 (List.map (zD false) list_))))),(36,.pl (.one (.v (.sc (.int .i64 (list_.length:Int)))))),(37,.pl (.one (.v (.sc (.int .i64 x37))))),(52,.pl (.one (.v (.list false 3 (List.map (zL false) x.Names))))),(53,.pl (.one (.v (.sc (.int .i64 (x.Names.length:Int)))))),(54,.pl (.one (.v (.sc (.int .i64 x54)))))],[]⟩) hl' (shd [1,35,36,37,52,53,54] [] 2 rfl) ?_
          rintro x54 y2' e' h2' rfl
          replace h2':impl_CommitsOk_l2 versions x x54=some y2':=h2'
          unfold impl_CommitsOk_l2 at h2'
          refine zB ?_
          refine zA ?_
          refine ops H' ?_
          refine zF ?_
          refine zB ?_
          refine zH (fun hc'=>?_) (fun hc'=>?_)
          ·replace h2':=(ifT hc').symm.trans h2'
           refine zM ?_
           refine zB ?_
           refine zI ?_
           refine zB ?_
           refine zA ?_
           obtain ⟨x_1,hv',h2'⟩:=zbi h2'
           have H':=And.intro (zS hv') H'
           refine ops H' ?_
           refine zF ?_
           refine zB ?_
           refine regQ ?_
           refine ops H' ?_
           obtain ⟨b_3,gh2',h2'⟩:=zbi h2'
           refine quV_cut 9 (fun e'=>e'=⟨75,2,2,[(1,.pl (.one (.v (.list false 1 (List.map (rK .i64) versions))))),(35,.pl (.one (.v (.list false 3 (List.map (zD false) list_))))),(36,.pl (.one (.v (.sc (.int .i64 (list_.length:Int)))))),(37,.pl (.one (.v (.sc (.int .i64 x37))))),(52,.pl (.one (.v (.list false 3 (List.map (zL false) x.Names))))),(53,.pl (.one (.v (.sc (.int .i64 (x.Names.length:Int)))))),(54,.pl (.one (.v (.sc (.int .i64 x54))))),(72,.pl (.one (.v (.sc (.bool b_3)))))],[]⟩) ?_ ?_
           ·simp only [List.take_succ_cons,List.take_zero]
            refine quV_sp (fun hc'=>?_) (fun hc'=>?_)
            ·replace gh2':=(ifF hc').symm.trans gh2'
             obtain ⟨x_2,hv',gh2'⟩:=zbi gh2'
             have H':=And.intro (zS hv') H'
             refine ops H' ?_
             obtain rfl:=zso gh2'
             refine qQ ?_
             exact ⟨rfl,shd [1,35,36,37,52,53,54,72] [] 2 rfl⟩
            ·replace gh2':=(ifT hc').symm.trans gh2'
             refine ops H' ?_
             obtain rfl:=zso gh2'
             refine qQ ?_
             exact ⟨rfl,shd [1,35,36,37,52,53,54,72] [] 2 rfl⟩
           ·rintro e' rfl
            simp only [List.drop_succ_cons,List.drop_zero]
            refine quN ?_
            refine zH (fun hc'=>?_) (fun hc'=>?_)
            ·replace h2':=(ifT hc').symm.trans h2'
             refine zB ?_
             refine zA ?_
             refine ops H' ?_
             refine zF ?_
             refine zN ?_
             obtain rfl:=zso h2'
             refine ⟨_,rfl,fun hr'=>?_⟩
             subst hr'
             obtain rfl:=zso h1'
             refine ⟨_,rfl,fun hr'=>?_⟩
             subst hr'
             obtain rfl:=zso h0'
             exact zP H' rfl rfl
            ·replace h2':=(ifF hc').symm.trans h2'
             refine zM ?_
             refine zA ?_
             refine ops H' ?_
             refine zF ?_
             obtain rfl:=zso h2'
             exact shd [1,35,36,37,52,53,54] [] 2 ⟨_,rfl,rfl⟩
          ·replace h2':=(ifF hc').symm.trans h2'
           refine qJ ?_
           obtain rfl:=zso h2'
           refine ⟨_,rfl,fun hr'=>?_⟩
           subst hr'
           exact shd [1,35,36,37] [] 2 ⟨h1',rfl⟩
       ·rintro e' ⟨h1',rfl⟩
        unfold impl_CommitsOk_j3 at h1'
        refine zA ?_
        refine ops H' ?_
        refine zF ?_
        obtain rfl:=zso h1'
        exact shd [1,35,36,37] [] 2 ⟨_,rfl,rfl⟩
      ·replace h1':=(ifF hc').symm.trans h1'
       refine qJ ?_
       obtain rfl:=zso h1'
       refine ⟨_,rfl,fun hr'=>?_⟩
       subst hr'
       exact shd [] [] 2 ⟨h0',rfl⟩
     ·rintro e' ⟨h0',rfl⟩
      unfold impl_CommitsOk_j2 at h0'
      refine zB ?_
      refine zA ?_
      refine ops H' ?_
      refine zF ?_
      refine zN ?_
      obtain rfl:=zso h0'
      exact zP H' rfl rfl
theorem W_impl_StoreOk (s:T_impl_Store) (r':Bool) (h0':impl_StoreOk s=some r'):Fn X 89 [.agg [.list false 3 (List.map (zD false) s.Commits),.list false 2 (List.map (zE false) s.Files)]] [.one (.sc (.bool r'))] []:=by
 have H':=And.intro t3 (And.intro t30 (And.intro t33 (And.intro t60 (And.intro t61 (And.intro t63 (And.intro R_LLi64 (And.intro R_Li64 (And.intro qK (And.intro qP (And.intro qM (And.intro jA (R_i64))))))))))))
 unfold impl_StoreOk at h0'
 refine Fn.start (fn:=f89) (N:=33) (res:=[.tmp 2]) rfl rfl rfl rfl rfl (by simp) ?_
 refine zW H' ?_
 refine zB ?_
 refine zA ?_
 refine ops H' ?_
 refine zF ?_
 refine zU (fun e'=>impl_StoreOk_j1 s=some r'∧e'=⟨33,2,3,[(1,.pl (.one (.ref 2 [])))],[(2,.box true [.list false 3 (List.map (zD false) s.Commits),.list false 2 (List.map (zE false) s.Files)])]⟩) ?_ ?_
 ·refine zB ?_
  refine zA ?_
  refine ops H' ?_
  refine zF ?_
  obtain ⟨p,hl',h0'⟩:=zbi h0'
  refine zI ?_
  refine zR (fun x8 e'=>e'=⟨33,2,3,[(1,.pl (.one (.ref 2 []))),(6,.pl (.one (.v (.list false 2 (List.map (zE false) s.Files))))),(7,.pl (.one (.v (.sc (.int .i64 (s.Files.length:Int)))))),(8,.pl (.one (.v (.sc (.int .i64 x8)))))],[(2,.box true [.list false 3 (List.map (zD false) s.Commits),.list false 2 (List.map (zE false) s.Files)])]⟩) hl' (shd [1,6,7,8] [(2,2)] 3 rfl) ?_
  rintro x8 y1' e' h1' rfl
  replace h1':impl_StoreOk_l1 s x8=some y1':=h1'
  unfold impl_StoreOk_l1 at h1'
  refine zB ?_
  refine zA ?_
  refine ops H' ?_
  refine zF ?_
  refine zB ?_
  refine zH (fun hc'=>?_) (fun hc'=>?_)
  ·replace h1':=(ifT hc').symm.trans h1'
   refine zM ?_
   refine zB ?_
   refine zI ?_
   refine zB ?_
   refine zA ?_
   obtain ⟨x,hv',h1'⟩:=zbi h1'
   have H':=And.intro (zS hv') H'
   refine ops H' ?_
   refine zF ?_
   refine zB ?_
   refine zA ?_
   refine ops H' ?_
   obtain ⟨b_1,gh1',h1'⟩:=zbi h1'
   refine qE 4 (fun e'=>e'=⟨33,2,3,[(1,.pl (.one (.ref 2 []))),(6,.pl (.one (.v (.list false 2 (List.map (zE false) s.Files))))),(7,.pl (.one (.v (.sc (.int .i64 (s.Files.length:Int)))))),(8,.pl (.one (.v (.sc (.int .i64 x8))))),(20,.pl (.one (.v (.sc (.bool b_1)))))],[(2,.box true [.list false 3 (List.map (zD false) s.Commits),.list false 2 (List.map (zE false) s.Files)])]⟩) ?_ ?_
   ·simp only [List.take_succ_cons,List.take_zero]
    refine qI (fun hc'=>?_) (fun hc'=>?_)
    ·replace gh1':=(ifF hc').symm.trans gh1'
     refine ops H' ?_
     obtain ⟨x18,hy',gh1'⟩:=zbi gh1'
     refine zY H' (fun _=>[]) (W_impl_WeaveOk _ _ hy') ?_
     refine ops H' ?_
     obtain rfl:=zso gh1'
     refine zG ?_
     exact ⟨rfl,shd [1,6,7,8,20] [(2,2)] 3 rfl⟩
    ·replace gh1':=(ifT hc').symm.trans gh1'
     refine ops H' ?_
     obtain rfl:=zso gh1'
     refine zG ?_
     exact ⟨rfl,shd [1,6,7,8,20] [(2,2)] 3 rfl⟩
   ·rintro e' rfl
    simp only [List.drop_succ_cons,List.drop_zero]
    refine zF ?_
    refine zH (fun hc'=>?_) (fun hc'=>?_)
    ·replace h1':=(ifT hc').symm.trans h1'
     refine zB ?_
     refine zA ?_
     refine ops H' ?_
     refine zF ?_
     refine zN ?_
     obtain rfl:=zso h1'
     refine ⟨_,rfl,fun hr'=>?_⟩
     subst hr'
     obtain rfl:=zso h0'
     exact zP H' rfl rfl
    ·replace h1':=(ifF hc').symm.trans h1'
     refine zM ?_
     refine zA ?_
     refine ops H' ?_
     refine zF ?_
     obtain rfl:=zso h1'
     exact shd [1,6,7,8] [(2,2)] 3 ⟨_,rfl,rfl⟩
  ·replace h1':=(ifF hc').symm.trans h1'
   refine qJ ?_
   obtain rfl:=zso h1'
   refine ⟨_,rfl,fun hr'=>?_⟩
   subst hr'
   exact shd [1] [(2,2)] 3 ⟨h0',rfl⟩
 ·rintro e' ⟨h0',rfl⟩
  unfold impl_StoreOk_j1 at h0'
  refine zB ?_
  refine wpV_frz H' 2 ?_
  obtain ⟨b,gh0_7_0,h0'⟩:=zbi h0'
  refine wpV_J (fun e'=>e'=⟨33,2,2,[(2,.pl (.one (.v (.sc (.bool b)))))],[]⟩) ?_ ?_
  ·rcases Bool.eq_false_or_eq_true (decide ((s.Files.length:Int)≤12)) with hc4_7_0 | hc4_7_0
   ·replace gh0_7_0:=(ifT hc4_7_0).symm.trans gh0_7_0
    obtain ⟨x29,hy_x29,gh0_7_0⟩:=zbi gh0_7_0
    obtain ⟨x30,hy_x30,gh0_7_0⟩:=zbi gh0_7_0
    obtain ⟨x31,hy_x31,gh0_7_0⟩:=zbi gh0_7_0
    obtain rfl:=zso gh0_7_0
    refine regAnyF [(1,23,.pl (.one (.v (.list false 2 (List.map (zE false) s.Files))))),(2,24,.pl (.one (.v (.sc (.int .i64 (s.Files.length:Int)))))),(3,25,.pl (.one (.v (.sc (.bool (decide ((s.Files.length:Int)≤12))))))),(4,26,.pl (.one (.v (.sc (.bool (decide ((s.Files.length:Int)≤12))))))),(5,27,.pl (.one (.ba [.list false 3 (List.map (zD false) s.Commits),.list false 2 (List.map (zE false) s.Files)]))),(6,28,.pl (.one (.v (.list false 3 (List.map (zD false) s.Commits))))),(9,31,.pl (.one (.v (.sc (.bool x31))))),(10,32,.pl (.one (.v (.sc (.bool x31))))),(11,2,.pl (.one (.v (.sc (.bool x31)))))] ?_
    refine (?_:anyF X ?ops7_0_0 _ _ ?P7_0_0 _)
    have d7_0_0_0':anyF X ?ops7_0_0 [0,1,2,3,4,7,8] [(5,27,.pl (.one (.ba [.list false 3 (List.map (zD false) s.Commits),.list false 2 (List.map (zE false) s.Files)]))),(6,28,.pl (.one (.v (.list false 3 (List.map (zD false) s.Commits))))),(9,31,.pl (.one (.v (.sc (.bool x31))))),(10,32,.pl (.one (.v (.sc (.bool x31))))),(11,2,.pl (.one (.v (.sc (.bool x31)))))] ?P7_0_0 ⟨33,2,3,[(1,.pl (.one (.v (.box false [.list false 3 (List.map (zD false) s.Commits),.list false 2 (List.map (zE false) s.Files)])))),(26,.pl (.one (.v (.sc (.bool (decide ((s.Files.length:Int)≤12))))))),(30,.pl (.one (.ref 2 [])))],[(2,.list true 1 (List.map (rK .i64) x30))]⟩:=by
     refine fend (e2:=⟨33,2,3,[(27,.pl (.one (.ba [.list false 3 (List.map (zD false) s.Commits),.list false 2 (List.map (zE false) s.Files)]))),(28,.pl (.one (.v (.list false 3 (List.map (zD false) s.Commits))))),(31,.pl (.one (.v (.sc (.bool x31))))),(32,.pl (.one (.v (.sc (.bool x31))))),(2,.pl (.one (.v (.sc (.bool x31))))),(1,.pl (.one (.v (.box false [.list false 3 (List.map (zD false) s.Commits),.list false 2 (List.map (zE false) s.Files)])))),(26,.pl (.one (.v (.sc (.bool (decide ((s.Files.length:Int)≤12))))))),(30,.pl (.one (.ref 2 [])))],[(2,.list true 1 (List.map (rK .i64) x30))]⟩) [5,6,9,10,11] [.q 5 27 (.pl (.one (.ba [.list false 3 (List.map (zD false) s.Commits),.list false 2 (List.map (zE false) s.Files)]))) [],.q 6 28 (.pl (.one (.v (.list false 3 (List.map (zD false) s.Commits))))) [5],.q 9 31 (.pl (.one (.v (.sc (.bool x31))))) [6],.q 10 32 (.pl (.one (.v (.sc (.bool x31))))) [9],.q 11 2 (.pl (.one (.v (.sc (.bool x31))))) [5,6,9,10]] [(5,27),(6,28),(9,31),(10,32),(11,2)] [(5,true,[],[]),(6,true,[5],[]),(9,true,[6],[]),(10,true,[9],[]),(11,true,[5,6,9,10],[])] ⟨?_,?_,?_,?_,?_,trivial⟩ ⟨rfl,shd [2] [] 2 rfl⟩
     ·refine zV 0 ⟨33,2,3,[(1,.pl (.one (.v (.box false [.list false 3 (List.map (zD false) s.Commits),.list false 2 (List.map (zE false) s.Files)])))),(26,.pl (.one (.v (.sc (.bool (decide ((s.Files.length:Int)≤12))))))),(30,.pl (.one (.ref 2 [])))],[(2,.list true 1 (List.map (rK .i64) x30))]⟩ ?_
      refine opsOn hc4_7_0 ?_
      refine ops H' ?_
      refine zG ⟨rfl,shd [27,1,26,30] [(2,2)] 3 rfl⟩
     ·refine zV 1 ⟨33,2,3,[(27,.pl (.one (.ba [.list false 3 (List.map (zD false) s.Commits),.list false 2 (List.map (zE false) s.Files)]))),(1,.pl (.one (.v (.box false [.list false 3 (List.map (zD false) s.Commits),.list false 2 (List.map (zE false) s.Files)])))),(26,.pl (.one (.v (.sc (.bool (decide ((s.Files.length:Int)≤12))))))),(30,.pl (.one (.ref 2 [])))],[(2,.list true 1 (List.map (rK .i64) x30))]⟩ ?_
      refine opsOn hc4_7_0 ?_
      refine ops H' ?_
      refine zG ⟨rfl,shd [28,1,26,30] [(2,2)] 3 rfl⟩
     ·refine zV 2 ⟨33,2,3,[(28,.pl (.one (.v (.list false 3 (List.map (zD false) s.Commits))))),(1,.pl (.one (.v (.box false [.list false 3 (List.map (zD false) s.Commits),.list false 2 (List.map (zE false) s.Files)])))),(26,.pl (.one (.v (.sc (.bool (decide ((s.Files.length:Int)≤12))))))),(30,.pl (.one (.ref 2 [])))],[(2,.list true 1 (List.map (rK .i64) x30))]⟩ ?_
      refine opsOn hc4_7_0 ?_
      refine zY H' (fun _=>[]) (W_impl_CommitsOk _ _ _ hy_x31) ?_
      refine zG ⟨rfl,shd [31,1,26,30] [(2,2)] 3 rfl⟩
     ·refine zV 3 ⟨33,2,3,[(31,.pl (.one (.v (.sc (.bool x31))))),(1,.pl (.one (.v (.box false [.list false 3 (List.map (zD false) s.Commits),.list false 2 (List.map (zE false) s.Files)])))),(26,.pl (.one (.v (.sc (.bool (decide ((s.Files.length:Int)≤12))))))),(30,.pl (.one (.ref 2 [])))],[(2,.list true 1 (List.map (rK .i64) x30))]⟩ ?_
      refine opsPick H' hc4_7_0 ?_
      refine zG ⟨rfl,shd [32,1,26,30] [(2,2)] 3 rfl⟩
     ·refine zV 4 ⟨33,2,3,[(27,.pl (.one (.ba [.list false 3 (List.map (zD false) s.Commits),.list false 2 (List.map (zE false) s.Files)]))),(28,.pl (.one (.v (.list false 3 (List.map (zD false) s.Commits))))),(31,.pl (.one (.v (.sc (.bool x31))))),(32,.pl (.one (.v (.sc (.bool x31))))),(1,.pl (.one (.v (.box false [.list false 3 (List.map (zD false) s.Commits),.list false 2 (List.map (zE false) s.Files)])))),(26,.pl (.one (.v (.sc (.bool (decide ((s.Files.length:Int)≤12))))))),(30,.pl (.one (.ref 2 [])))],[(2,.list true 1 (List.map (rK .i64) x30))]⟩ ?_
      refine ops H' ?_
      refine zG ⟨rfl,shd [2,1,26,30] [(2,2)] 3 rfl⟩
    have d7_0_0_1':anyF X ?ops7_0_0 [0,1,2,3,4,7] [(5,27,.pl (.one (.ba [.list false 3 (List.map (zD false) s.Commits),.list false 2 (List.map (zE false) s.Files)]))),(6,28,.pl (.one (.v (.list false 3 (List.map (zD false) s.Commits))))),(9,31,.pl (.one (.v (.sc (.bool x31))))),(10,32,.pl (.one (.v (.sc (.bool x31))))),(11,2,.pl (.one (.v (.sc (.bool x31)))))] ?P7_0_0 ⟨33,2,3,[(1,.pl (.one (.v (.box false [.list false 3 (List.map (zD false) s.Commits),.list false 2 (List.map (zE false) s.Files)])))),(26,.pl (.one (.v (.sc (.bool (decide ((s.Files.length:Int)≤12))))))),(29,.pl (.one (.ref 2 [])))],[(2,.list true 1 (List.map (rL false 1 (rL false 1 (rK .i64))) x29))]⟩:=by
     refine fnode [5,6] [.q 5 27 (.pl (.one (.ba [.list false 3 (List.map (zD false) s.Commits),.list false 2 (List.map (zE false) s.Files)]))) [],.q 6 28 (.pl (.one (.v (.list false 3 (List.map (zD false) s.Commits))))) [5],.m 8 [] [0,1,2,3,4,7,8] [(5,27,.pl (.one (.ba [.list false 3 (List.map (zD false) s.Commits),.list false 2 (List.map (zE false) s.Files)]))),(6,28,.pl (.one (.v (.list false 3 (List.map (zD false) s.Commits))))),(9,31,.pl (.one (.v (.sc (.bool x31))))),(10,32,.pl (.one (.v (.sc (.bool x31))))),(11,2,.pl (.one (.v (.sc (.bool x31)))))]] [(5,27),(6,28),(9,31),(10,32),(11,2)] [(5,true,[],[]),(6,true,[5],[]),(8,false,[],[0,1,2,3,4,7,8])] ⟨?_,?_,?_,trivial⟩
     ·refine zV 0 ⟨33,2,3,[(1,.pl (.one (.v (.box false [.list false 3 (List.map (zD false) s.Commits),.list false 2 (List.map (zE false) s.Files)])))),(26,.pl (.one (.v (.sc (.bool (decide ((s.Files.length:Int)≤12))))))),(29,.pl (.one (.ref 2 [])))],[(2,.list true 1 (List.map (rL false 1 (rL false 1 (rK .i64))) x29))]⟩ ?_
      refine opsOn hc4_7_0 ?_
      refine ops H' ?_
      refine zG ⟨rfl,shd [27,1,26,29] [(2,2)] 3 rfl⟩
     ·refine zV 1 ⟨33,2,3,[(27,.pl (.one (.ba [.list false 3 (List.map (zD false) s.Commits),.list false 2 (List.map (zE false) s.Files)]))),(1,.pl (.one (.v (.box false [.list false 3 (List.map (zD false) s.Commits),.list false 2 (List.map (zE false) s.Files)])))),(26,.pl (.one (.v (.sc (.bool (decide ((s.Files.length:Int)≤12))))))),(29,.pl (.one (.ref 2 [])))],[(2,.list true 1 (List.map (rL false 1 (rL false 1 (rK .i64))) x29))]⟩ ?_
      refine opsOn hc4_7_0 ?_
      refine ops H' ?_
      refine zG ⟨rfl,shd [28,1,26,29] [(2,2)] 3 rfl⟩
     ·refine obMx ⟨33,2,3,[(1,.pl (.one (.v (.box false [.list false 3 (List.map (zD false) s.Commits),.list false 2 (List.map (zE false) s.Files)])))),(26,.pl (.one (.v (.sc (.bool (decide ((s.Files.length:Int)≤12))))))),(29,.pl (.one (.ref 2 [])))],[(2,.list true 1 (List.map (rL false 1 (rL false 1 (rK .i64))) x29))]⟩ ?_
      refine opsOn hc4_7_0 ?_
      refine zY H' (fun _=>[]) (W_impl_sizesOf _ _ hy_x30) ?_
      refine zG ⟨rfl,.inl ⟨rfl,?_⟩⟩
      exact qF [1,26,30] [(3,2)] 3 d7_0_0_0'
    have d7_0_0_2':anyF X ?ops7_0_0 [0] [(1,23,.pl (.one (.v (.list false 2 (List.map (zE false) s.Files))))),(2,24,.pl (.one (.v (.sc (.int .i64 (s.Files.length:Int)))))),(3,25,.pl (.one (.v (.sc (.bool (decide ((s.Files.length:Int)≤12))))))),(4,26,.pl (.one (.v (.sc (.bool (decide ((s.Files.length:Int)≤12))))))),(5,27,.pl (.one (.ba [.list false 3 (List.map (zD false) s.Commits),.list false 2 (List.map (zE false) s.Files)]))),(6,28,.pl (.one (.v (.list false 3 (List.map (zD false) s.Commits))))),(9,31,.pl (.one (.v (.sc (.bool x31))))),(10,32,.pl (.one (.v (.sc (.bool x31))))),(11,2,.pl (.one (.v (.sc (.bool x31)))))] ?P7_0_0 ⟨33,2,2,[(1,.pl (.one (.v (.box false [.list false 3 (List.map (zD false) s.Commits),.list false 2 (List.map (zE false) s.Files)])))),(22,.pl (.one (.ba [.list false 2 (List.map (zE false) s.Files)])))],[]⟩:=by
     refine fnode [1,2,3,4,5,6] [.q 1 23 (.pl (.one (.v (.list false 2 (List.map (zE false) s.Files))))) [],.q 2 24 (.pl (.one (.v (.sc (.int .i64 (s.Files.length:Int)))))) [1],.q 3 25 (.pl (.one (.v (.sc (.bool (decide ((s.Files.length:Int)≤12))))))) [2],.q 4 26 (.pl (.one (.v (.sc (.bool (decide ((s.Files.length:Int)≤12))))))) [3],.q 5 27 (.pl (.one (.ba [.list false 3 (List.map (zD false) s.Commits),.list false 2 (List.map (zE false) s.Files)]))) [4],.q 6 28 (.pl (.one (.v (.list false 3 (List.map (zD false) s.Commits))))) [4,5],.m 7 [4,3,2,1] [0,1,2,3,4,7] [(5,27,.pl (.one (.ba [.list false 3 (List.map (zD false) s.Commits),.list false 2 (List.map (zE false) s.Files)]))),(6,28,.pl (.one (.v (.list false 3 (List.map (zD false) s.Commits))))),(9,31,.pl (.one (.v (.sc (.bool x31))))),(10,32,.pl (.one (.v (.sc (.bool x31))))),(11,2,.pl (.one (.v (.sc (.bool x31)))))]] [(1,23),(2,24),(3,25),(4,26),(5,27),(6,28),(9,31),(10,32),(11,2)] [(1,true,[],[]),(2,true,[1],[]),(3,true,[2],[]),(4,true,[3],[]),(5,true,[4],[]),(6,true,[4,5],[]),(7,false,[4,3,2,1],[0,1,2,3,4,7])] ⟨?_,?_,?_,?_,?_,?_,?_,trivial⟩
     ·refine zV 0 ⟨33,2,2,[(1,.pl (.one (.v (.box false [.list false 3 (List.map (zD false) s.Commits),.list false 2 (List.map (zE false) s.Files)])))),(22,.pl (.one (.ba [.list false 2 (List.map (zE false) s.Files)])))],[]⟩ ?_
      refine ops H' ?_
      refine zG ⟨rfl,shd [23,1,22] [] 2 rfl⟩
     ·refine zV 1 ⟨33,2,2,[(23,.pl (.one (.v (.list false 2 (List.map (zE false) s.Files))))),(1,.pl (.one (.v (.box false [.list false 3 (List.map (zD false) s.Commits),.list false 2 (List.map (zE false) s.Files)])))),(22,.pl (.one (.ba [.list false 2 (List.map (zE false) s.Files)])))],[]⟩ ?_
      refine ops H' ?_
      refine zG ⟨rfl,shd [24,1,22] [] 2 rfl⟩
     ·refine zV 2 ⟨33,2,2,[(24,.pl (.one (.v (.sc (.int .i64 (s.Files.length:Int)))))),(1,.pl (.one (.v (.box false [.list false 3 (List.map (zD false) s.Commits),.list false 2 (List.map (zE false) s.Files)])))),(22,.pl (.one (.ba [.list false 2 (List.map (zE false) s.Files)])))],[]⟩ ?_
      refine ops H' ?_
      refine zG ⟨rfl,shd [25,1,22] [] 2 rfl⟩
     ·refine zV 3 ⟨33,2,2,[(25,.pl (.one (.v (.sc (.bool (decide ((s.Files.length:Int)≤12))))))),(1,.pl (.one (.v (.box false [.list false 3 (List.map (zD false) s.Commits),.list false 2 (List.map (zE false) s.Files)])))),(22,.pl (.one (.ba [.list false 2 (List.map (zE false) s.Files)])))],[]⟩ ?_
      refine ops H' ?_
      refine zG ⟨rfl,shd [26,1,22] [] 2 rfl⟩
     ·refine zV 4 ⟨33,2,2,[(26,.pl (.one (.v (.sc (.bool (decide ((s.Files.length:Int)≤12))))))),(1,.pl (.one (.v (.box false [.list false 3 (List.map (zD false) s.Commits),.list false 2 (List.map (zE false) s.Files)])))),(22,.pl (.one (.ba [.list false 2 (List.map (zE false) s.Files)])))],[]⟩ ?_
      refine opsOn hc4_7_0 ?_
      refine ops H' ?_
      refine zG ⟨rfl,shd [27,1,22] [] 2 rfl⟩
     ·refine zV 5 ⟨33,2,2,[(26,.pl (.one (.v (.sc (.bool (decide ((s.Files.length:Int)≤12))))))),(27,.pl (.one (.ba [.list false 3 (List.map (zD false) s.Commits),.list false 2 (List.map (zE false) s.Files)]))),(1,.pl (.one (.v (.box false [.list false 3 (List.map (zD false) s.Commits),.list false 2 (List.map (zE false) s.Files)])))),(22,.pl (.one (.ba [.list false 2 (List.map (zE false) s.Files)])))],[]⟩ ?_
      refine opsOn hc4_7_0 ?_
      refine ops H' ?_
      refine zG ⟨rfl,shd [28,1,22] [] 2 rfl⟩
     ·refine obMx ⟨33,2,2,[(23,.pl (.one (.v (.list false 2 (List.map (zE false) s.Files))))),(24,.pl (.one (.v (.sc (.int .i64 (s.Files.length:Int)))))),(25,.pl (.one (.v (.sc (.bool (decide ((s.Files.length:Int)≤12))))))),(26,.pl (.one (.v (.sc (.bool (decide ((s.Files.length:Int)≤12))))))),(1,.pl (.one (.v (.box false [.list false 3 (List.map (zD false) s.Commits),.list false 2 (List.map (zE false) s.Files)])))),(22,.pl (.one (.ba [.list false 2 (List.map (zE false) s.Files)])))],[]⟩ ?_
      refine opsOn hc4_7_0 ?_
      refine callGD H' (fun _=>[]) (W_impl_Store_graphs _ _ hy_x29) ?_
      refine zG ⟨rfl,.inl ⟨rfl,?_⟩⟩
      exact qF [1,26,29] [(2,2)] 3 d7_0_0_1'
    refine fpure H' 0 [0] [(1,23),(2,24),(3,25),(4,26),(5,27),(6,28),(9,31),(10,32),(11,2)] ?_
    exact qF [1,22] [] 2 d7_0_0_2'
   ·replace gh0_7_0:=(ifF hc4_7_0).symm.trans gh0_7_0
    obtain rfl:=zso gh0_7_0
    refine regAnyF [(1,23,.pl (.one (.v (.list false 2 (List.map (zE false) s.Files))))),(2,24,.pl (.one (.v (.sc (.int .i64 (s.Files.length:Int)))))),(3,25,.pl (.one (.v (.sc (.bool (decide ((s.Files.length:Int)≤12))))))),(4,26,.pl (.one (.v (.sc (.bool (decide ((s.Files.length:Int)≤12))))))),(5,27,.tup []),(6,28,.tup []),(7,29,.tup []),(8,30,.tup []),(9,31,.tup []),(10,32,.pl (.one (.v (.sc (.bool false))))),(11,2,.pl (.one (.v (.sc (.bool false)))))] ?_
    refine (?_:anyF X ?ops7_0_1 _ _ ?P7_0_1 _)
    have d7_0_1_0':anyF X ?ops7_0_1 [0] [(1,23,.pl (.one (.v (.list false 2 (List.map (zE false) s.Files))))),(2,24,.pl (.one (.v (.sc (.int .i64 (s.Files.length:Int)))))),(3,25,.pl (.one (.v (.sc (.bool (decide ((s.Files.length:Int)≤12))))))),(4,26,.pl (.one (.v (.sc (.bool (decide ((s.Files.length:Int)≤12))))))),(5,27,.tup []),(6,28,.tup []),(7,29,.tup []),(8,30,.tup []),(9,31,.tup []),(10,32,.pl (.one (.v (.sc (.bool false))))),(11,2,.pl (.one (.v (.sc (.bool false)))))] ?P7_0_1 ⟨33,2,2,[(1,.pl (.one (.v (.box false [.list false 3 (List.map (zD false) s.Commits),.list false 2 (List.map (zE false) s.Files)])))),(22,.pl (.one (.ba [.list false 2 (List.map (zE false) s.Files)])))],[]⟩:=by
     refine fend (e2:=⟨33,2,2,[(23,.pl (.one (.v (.list false 2 (List.map (zE false) s.Files))))),(24,.pl (.one (.v (.sc (.int .i64 (s.Files.length:Int)))))),(25,.pl (.one (.v (.sc (.bool (decide ((s.Files.length:Int)≤12))))))),(26,.pl (.one (.v (.sc (.bool (decide ((s.Files.length:Int)≤12))))))),(27,.tup []),(28,.tup []),(29,.tup []),(30,.tup []),(31,.tup []),(32,.pl (.one (.v (.sc (.bool false))))),(2,.pl (.one (.v (.sc (.bool false))))),(1,.pl (.one (.v (.box false [.list false 3 (List.map (zD false) s.Commits),.list false 2 (List.map (zE false) s.Files)])))),(22,.pl (.one (.ba [.list false 2 (List.map (zE false) s.Files)])))],[]⟩) [1,2,3,4,5,6,7,8,9,10,11] [.q 1 23 (.pl (.one (.v (.list false 2 (List.map (zE false) s.Files))))) [],.q 2 24 (.pl (.one (.v (.sc (.int .i64 (s.Files.length:Int)))))) [1],.q 3 25 (.pl (.one (.v (.sc (.bool (decide ((s.Files.length:Int)≤12))))))) [2],.q 4 26 (.pl (.one (.v (.sc (.bool (decide ((s.Files.length:Int)≤12))))))) [3],.q 5 27 (.tup []) [4],.q 6 28 (.tup []) [4,5],.q 7 29 (.tup []) [4],.q 8 30 (.tup []) [4,7],.q 9 31 (.tup []) [4,6,8],.q 10 32 (.pl (.one (.v (.sc (.bool false))))) [4,9],.q 11 2 (.pl (.one (.v (.sc (.bool false))))) [1,2,3,4,5,6,7,8,9,10]] [(1,23),(2,24),(3,25),(4,26),(5,27),(6,28),(7,29),(8,30),(9,31),(10,32),(11,2)] [(1,true,[],[]),(2,true,[1],[]),(3,true,[2],[]),(4,true,[3],[]),(5,true,[4],[]),(6,true,[4,5],[]),(7,true,[4],[]),(8,true,[4,7],[]),(9,true,[4,6,8],[]),(10,true,[4,9],[]),(11,true,[1,2,3,4,5,6,7,8,9,10],[])] ⟨?_,?_,?_,?_,?_,?_,?_,?_,?_,?_,?_,trivial⟩ ⟨rfl,shd [2] [] 2 rfl⟩
     ·refine zV 0 ⟨33,2,2,[(1,.pl (.one (.v (.box false [.list false 3 (List.map (zD false) s.Commits),.list false 2 (List.map (zE false) s.Files)])))),(22,.pl (.one (.ba [.list false 2 (List.map (zE false) s.Files)])))],[]⟩ ?_
      refine ops H' ?_
      refine zG ⟨rfl,shd [23,1,22] [] 2 rfl⟩
     ·refine zV 1 ⟨33,2,2,[(23,.pl (.one (.v (.list false 2 (List.map (zE false) s.Files))))),(1,.pl (.one (.v (.box false [.list false 3 (List.map (zD false) s.Commits),.list false 2 (List.map (zE false) s.Files)])))),(22,.pl (.one (.ba [.list false 2 (List.map (zE false) s.Files)])))],[]⟩ ?_
      refine ops H' ?_
      refine zG ⟨rfl,shd [24,1,22] [] 2 rfl⟩
     ·refine zV 2 ⟨33,2,2,[(24,.pl (.one (.v (.sc (.int .i64 (s.Files.length:Int)))))),(1,.pl (.one (.v (.box false [.list false 3 (List.map (zD false) s.Commits),.list false 2 (List.map (zE false) s.Files)])))),(22,.pl (.one (.ba [.list false 2 (List.map (zE false) s.Files)])))],[]⟩ ?_
      refine ops H' ?_
      refine zG ⟨rfl,shd [25,1,22] [] 2 rfl⟩
     ·refine zV 3 ⟨33,2,2,[(25,.pl (.one (.v (.sc (.bool (decide ((s.Files.length:Int)≤12))))))),(1,.pl (.one (.v (.box false [.list false 3 (List.map (zD false) s.Commits),.list false 2 (List.map (zE false) s.Files)])))),(22,.pl (.one (.ba [.list false 2 (List.map (zE false) s.Files)])))],[]⟩ ?_
      refine ops H' ?_
      refine zG ⟨rfl,shd [26,1,22] [] 2 rfl⟩
     ·refine zV 4 ⟨33,2,2,[(26,.pl (.one (.v (.sc (.bool (decide ((s.Files.length:Int)≤12))))))),(1,.pl (.one (.v (.box false [.list false 3 (List.map (zD false) s.Commits),.list false 2 (List.map (zE false) s.Files)])))),(22,.pl (.one (.ba [.list false 2 (List.map (zE false) s.Files)])))],[]⟩ ?_
      refine opsOff hc4_7_0 ?_
      refine zG ⟨rfl,shd [27,1,22] [] 2 rfl⟩
     ·refine zV 5 ⟨33,2,2,[(26,.pl (.one (.v (.sc (.bool (decide ((s.Files.length:Int)≤12))))))),(27,.tup []),(1,.pl (.one (.v (.box false [.list false 3 (List.map (zD false) s.Commits),.list false 2 (List.map (zE false) s.Files)])))),(22,.pl (.one (.ba [.list false 2 (List.map (zE false) s.Files)])))],[]⟩ ?_
      refine opsOff hc4_7_0 ?_
      refine zG ⟨rfl,shd [28,1,22] [] 2 rfl⟩
     ·refine zV 6 ⟨33,2,2,[(26,.pl (.one (.v (.sc (.bool (decide ((s.Files.length:Int)≤12))))))),(1,.pl (.one (.v (.box false [.list false 3 (List.map (zD false) s.Commits),.list false 2 (List.map (zE false) s.Files)])))),(22,.pl (.one (.ba [.list false 2 (List.map (zE false) s.Files)])))],[]⟩ ?_
      refine opsOff hc4_7_0 ?_
      refine zG ⟨rfl,shd [29,1,22] [] 2 rfl⟩
     ·refine zV 7 ⟨33,2,2,[(26,.pl (.one (.v (.sc (.bool (decide ((s.Files.length:Int)≤12))))))),(29,.tup []),(1,.pl (.one (.v (.box false [.list false 3 (List.map (zD false) s.Commits),.list false 2 (List.map (zE false) s.Files)])))),(22,.pl (.one (.ba [.list false 2 (List.map (zE false) s.Files)])))],[]⟩ ?_
      refine opsOff hc4_7_0 ?_
      refine zG ⟨rfl,shd [30,1,22] [] 2 rfl⟩
     ·refine zV 8 ⟨33,2,2,[(26,.pl (.one (.v (.sc (.bool (decide ((s.Files.length:Int)≤12))))))),(28,.tup []),(30,.tup []),(1,.pl (.one (.v (.box false [.list false 3 (List.map (zD false) s.Commits),.list false 2 (List.map (zE false) s.Files)])))),(22,.pl (.one (.ba [.list false 2 (List.map (zE false) s.Files)])))],[]⟩ ?_
      refine opsOff hc4_7_0 ?_
      refine zG ⟨rfl,shd [31,1,22] [] 2 rfl⟩
     ·refine zV 9 ⟨33,2,2,[(26,.pl (.one (.v (.sc (.bool (decide ((s.Files.length:Int)≤12))))))),(31,.tup []),(1,.pl (.one (.v (.box false [.list false 3 (List.map (zD false) s.Commits),.list false 2 (List.map (zE false) s.Files)])))),(22,.pl (.one (.ba [.list false 2 (List.map (zE false) s.Files)])))],[]⟩ ?_
      refine opsPick H' hc4_7_0 ?_
      refine zG ⟨rfl,shd [32,1,22] [] 2 rfl⟩
     ·refine zV 10 ⟨33,2,2,[(23,.pl (.one (.v (.list false 2 (List.map (zE false) s.Files))))),(24,.pl (.one (.v (.sc (.int .i64 (s.Files.length:Int)))))),(25,.pl (.one (.v (.sc (.bool (decide ((s.Files.length:Int)≤12))))))),(26,.pl (.one (.v (.sc (.bool (decide ((s.Files.length:Int)≤12))))))),(27,.tup []),(28,.tup []),(29,.tup []),(30,.tup []),(31,.tup []),(32,.pl (.one (.v (.sc (.bool false))))),(1,.pl (.one (.v (.box false [.list false 3 (List.map (zD false) s.Commits),.list false 2 (List.map (zE false) s.Files)])))),(22,.pl (.one (.ba [.list false 2 (List.map (zE false) s.Files)])))],[]⟩ ?_
      refine ops H' ?_
      refine zG ⟨rfl,shd [2,1,22] [] 2 rfl⟩
    refine fpure H' 0 [0] [(1,23),(2,24),(3,25),(4,26),(5,27),(6,28),(7,29),(8,30),(9,31),(10,32),(11,2)] ?_
    exact qF [1,22] [] 2 d7_0_1_0'
  ·rintro e' rfl
   refine contN ?_
   refine zN ?_
   obtain rfl:=zso h0'
   exact zP H' rfl rfl
theorem W_impl_Weave_linesAt (w:T_impl_Weave) (places:List Int) (r':(List ByteArray)) (h0':impl_Weave_linesAt w places=some r'):Fn X 77 [.one (.box false [.list false 1 (List.map (rL false 1 (rK .i64)) w.Parents),.list false 4 (List.map (zC false) w.Bodies)]),.one (.list false 1 (List.map (rK .i64) places))] [.one (.list true 1 (List.map rS r'))] []:=by
 have H':=And.intro t3 (And.intro t9 (And.intro t31 (And.intro t33 (And.intro t36 (And.intro t43 (And.intro t110 (And.intro R_Li64 (And.intro qK (And.intro R_i64 (R_s))))))))))
 unfold impl_Weave_linesAt at h0'
 refine Fn.start (fn:=f77) (N:=27) (res:=[.tmp 4]) rfl rfl rfl rfl rfl (by simp) ?_
 refine zW H' ?_
 refine zB ?_
 refine zA ?_
 refine ops H' ?_
 refine zF ?_
 refine zB ?_
 refine zA ?_
 refine ops H' ?_
 refine zF ?_
 refine zU (fun e'=>∃ out_,impl_Weave_linesAt_j1 out_=some r'∧e'=⟨27,2,3,[(5,.pl (.one (.ref 2 [])))],[(2,.list true 1 (List.map rS out_))]⟩) ?_ ?_
 ·refine zB ?_
  refine zA ?_
  refine ops H' ?_
  refine zF ?_
  obtain ⟨p,hl',h0'⟩:=zbi h0'
  refine zI ?_
  refine zR (fun s' e'=>∃ x10 out__1,s'=(x10,out__1)∧e'=⟨27,2,3,[(0,.pl (.one (.v (.box false [.list false 1 (List.map (rL false 1 (rK .i64)) w.Parents),.list false 4 (List.map (zC false) w.Bodies)])))),(5,.pl (.one (.ref 2 []))),(8,.pl (.one (.v (.list false 1 (List.map (rK .i64) places))))),(9,.pl (.one (.v (.sc (.int .i64 (places.length:Int)))))),(10,.pl (.one (.v (.sc (.int .i64 x10)))))],[(2,.list true 1 (List.map rS out__1))]⟩) hl' (shd [0,5,8,9,10] [(3,2)] 3 ⟨_,_,rfl,rfl⟩) ?_
  rintro s' y1' e' h1' ⟨x10,out__1,rfl,rfl⟩
  replace h1':qW w places x10 out__1=some y1':=h1'
  unfold qW at h1'
  refine zB ?_
  refine zA ?_
  refine ops H' ?_
  refine zF ?_
  refine zB ?_
  refine zH (fun hc'=>?_) (fun hc'=>?_)
  ·replace h1':=(ifT hc').symm.trans h1'
   refine zM ?_
   refine zB ?_
   refine zI ?_
   refine zB ?_
   refine zA ?_
   obtain ⟨x,hv',h1'⟩:=zbi h1'
   have H':=And.intro (zS hv') H'
   refine ops H' ?_
   refine zF ?_
   refine zA ?_
   obtain ⟨x_1,hv',h1'⟩:=zbi h1'
   have H':=And.intro (zS hv') H'
   obtain ⟨l,hv',h1'⟩:=zbi h1'
   have H':=And.intro (app1_f hv') H'
   refine ops H' ?_
   refine zF ?_
   refine zA ?_
   refine ops H' ?_
   refine zF ?_
   obtain rfl:=zso h1'
   exact shd [0,5,8,9,10] [(2,2)] 3 ⟨_,rfl,_,_,rfl,rfl⟩
  ·replace h1':=(ifF hc').symm.trans h1'
   refine qJ ?_
   obtain rfl:=zso h1'
   refine ⟨_,rfl,fun hr'=>?_⟩
   subst hr'
   exact shd [5] [(2,2)] 3 ⟨_,h0',rfl⟩
 ·rintro e' ⟨out_,h0',rfl⟩
  unfold impl_Weave_linesAt_j1 at h0'
  refine zB ?_
  refine zA ?_
  refine ops H' ?_
  refine zF ?_
  refine zN ?_
  obtain rfl:=zso h0'
  exact zP H' rfl rfl
theorem W_impl_Weave_extract (w:T_impl_Weave) (v:Int) (r':(List ByteArray)) (h0':impl_Weave_extract w v=some r'):Fn X 83 [.one (.box false [.list false 1 (List.map (rL false 1 (rK .i64)) w.Parents),.list false 4 (List.map (zC false) w.Bodies)]),.one (.sc (.int .i64 v))] [.one (.list true 1 (List.map rS r'))] []:=by
 have H':=And.intro t30 (And.intro t33 (And.intro t105 (And.intro t106 (And.intro R_Li64 (And.intro qK (And.intro R_i64 (And.intro R_s (R_u64))))))))
 unfold impl_Weave_extract at h0'
 refine Fn.start (fn:=f83) (N:=17) (res:=[.tmp 4]) rfl rfl rfl rfl rfl (by simp) ?_
 refine zW H' ?_
 refine zB ?_
 refine zA ?_
 refine ops H' ?_
 refine zF ?_
 refine zB ?_
 refine zA ?_
 refine ops H' ?_
 obtain ⟨x11,hy',h0'⟩:=zbi h0'
 refine zY H' (fun _=>[]) (W_impl_closures _ _ hy') ?_
 obtain ⟨x,hv',h0'⟩:=zbi h0'
 have H':=And.intro (zS hv') H'
 refine ops H' ?_
 obtain ⟨x15,hy',h0'⟩:=zbi h0'
 refine zY H' (fun _=>[]) (W_impl_Weave_liveIn _ _ _ hy') ?_
 obtain ⟨x16,hy',h0'⟩:=zbi h0'
 refine zY H' (fun _=>[]) (W_impl_Weave_linesAt _ _ _ hy') ?_
 refine ops H' ?_
 refine zF ?_
 refine zN ?_
 obtain rfl:=zso h0'
 exact zP H' rfl rfl
end Go.TV.KFnExactStatsOf
