/- Walks. -/
import Derived.Test.YtmoglghkjfjalaaGreatKFnExactFileLogE
import Derived.Test.YtmoglghkjfjalaaGreatKFnExactFileLogW3
import Derived.Test.YtmoglghkjfjalaaGreatKFnExactFileLogW4
set_option linter.unusedVariables false
set_option linter.unusedSimpArgs false
set_option maxHeartbeats 8000000
set_option maxRecDepth 100000
namespace Go.TV.KFnExactFileLog
attribute [local irreducible] anyV wpV opsV Does thenV blockV RetL quV seqV
open Go.Proofs.Tryz Go.TV.F
theorem W_impl_NamesOk (list_:List T_impl_Name) (r':Bool) (h0':impl_NamesOk list_=some r'):Fn X 218 [.one (.list false 3 (List.map (zJ true) list_))] [.one (.sc (.bool r'))] []:=by
 have H':=And.intro t3 (And.intro t9 (And.intro t41 (And.intro t45 (zZ))))
 unfold impl_NamesOk at h0'
 refine Fn.start (fn:=f218) (N:=53) (res:=[.tmp 2]) rfl rfl rfl rfl rfl (by simp) ?_
 refine zU H' ?_
 refine zB ?_
 refine zA ?_
 refine ops H' ?_
 refine zE ?_
 refine zB ?_
 refine zB ?_
 refine zA ?_
 refine ops H' ?_
 refine zE ?_
 refine zH (fun hc'=>?_) (fun hc'=>?_)
 ·replace h0':=(ifT hc').symm.trans h0'
  refine zB ?_
  refine zA ?_
  refine ops H' ?_
  refine zE ?_
  refine zN ?_
  obtain rfl:=zso h0'
  exact zO H' rfl rfl
 ·replace h0':=(ifF hc').symm.trans h0'
  refine zM ?_
  refine zV (fun e'=>impl_NamesOk_j1=some r'∧e'=⟨53,1,1,[],[]⟩) ?_ ?_
  ·refine zB ?_
   refine zA ?_
   refine ops H' ?_
   refine zE ?_
   obtain ⟨p,hl',h0'⟩:=zbi h0'
   refine zI ?_
   refine zS (fun x10 e'=>e'=⟨53,1,1,[(0,.pl (.one (.v (.list false 3 (List.map (zJ true) list_))))),(8,.pl (.one (.v (.list false 3 (List.map (zJ true) list_))))),(9,.pl (.one (.v (.sc (.int .i64 (list_.length:Int)))))),(10,.pl (.one (.v (.sc (.int .i64 x10)))))],[]⟩) hl' (shd [0,8,9,10] [] 1 rfl) ?_
   rintro x10 y1' e' h1' rfl
   replace h1':impl_NamesOk_l1 list_ x10=some y1':=h1'
   unfold impl_NamesOk_l1 at h1'
   refine zB ?_
   refine zA ?_
   refine ops H' ?_
   refine zE ?_
   refine zB ?_
   refine zH (fun hc'=>?_) (fun hc'=>?_)
   ·replace h1':=(ifT hc').symm.trans h1'
    refine zM ?_
    refine zB ?_
    refine zI ?_
    refine zB ?_
    refine zA ?_
    obtain ⟨x,hv',h1'⟩:=zbi h1'
    have H':=And.intro (zP hv') H'
    refine ops H' ?_
    refine zE ?_
    refine zB ?_
    refine zB ?_
    refine zA ?_
    refine ops H' ?_
    obtain ⟨x17,hy',h1'⟩:=zbi h1'
    refine zR H' (fun _=>[]) (W_impl_PathOk _ _ hy') ?_
    refine ops H' ?_
    obtain ⟨b,gh1',h1'⟩:=zbi h1'
    refine qC 5 (fun e'=>e'=⟨53,1,2,[(0,.pl (.one (.v (.list false 3 (List.map (zJ true) list_))))),(3,.pl (.one (.v (.sc (.int .i64 x10))))),(4,.pl (.one (.ref 1 []))),(8,.pl (.one (.v (.list false 3 (List.map (zJ true) list_))))),(9,.pl (.one (.v (.sc (.int .i64 (list_.length:Int)))))),(10,.pl (.one (.v (.sc (.int .i64 x10))))),(24,.pl (.one (.v (.sc (.bool b)))))],[(1,.box true [.sc (.string x.Path),.sc (.int .i64 x.Id),.sc (.int .i64 x.Version)])]⟩) ?_ ?_
    ·simp only [List.take_succ_cons,List.take_zero]
     refine qE (fun hc'=>?_) (fun hc'=>?_)
     ·replace gh1':=(ifF hc').symm.trans gh1'
      refine ops H' ?_
      obtain ⟨x22,hy',gh1'⟩:=zbi gh1'
      refine zR H' (fun _=>[]) (W_impl_inRange _ _ _ _ hy') ?_
      refine ops H' ?_
      obtain rfl:=zso gh1'
      refine zG ?_
      exact ⟨rfl,shd [0,3,4,8,9,10,24] [(1,1)] 2 rfl⟩
     ·replace gh1':=(ifT hc').symm.trans gh1'
      refine ops H' ?_
      obtain rfl:=zso gh1'
      refine zG ?_
      exact ⟨rfl,shd [0,3,4,8,9,10,24] [(1,1)] 2 rfl⟩
    ·rintro e' rfl
     simp only [List.drop_succ_cons,List.drop_zero]
     refine ops H' ?_
     obtain ⟨b_1,gh1',h1'⟩:=zbi h1'
     refine qC 5 (fun e'=>e'=⟨53,1,2,[(0,.pl (.one (.v (.list false 3 (List.map (zJ true) list_))))),(3,.pl (.one (.v (.sc (.int .i64 x10))))),(4,.pl (.one (.ref 1 []))),(8,.pl (.one (.v (.list false 3 (List.map (zJ true) list_))))),(9,.pl (.one (.v (.sc (.int .i64 (list_.length:Int)))))),(10,.pl (.one (.v (.sc (.int .i64 x10))))),(30,.pl (.one (.v (.sc (.bool b_1)))))],[(1,.box true [.sc (.string x.Path),.sc (.int .i64 x.Id),.sc (.int .i64 x.Version)])]⟩) ?_ ?_
     ·simp only [List.take_succ_cons,List.take_zero]
      refine qE (fun hc'=>?_) (fun hc'=>?_)
      ·replace gh1':=(ifF hc').symm.trans gh1'
       refine ops H' ?_
       obtain ⟨x28,hy',gh1'⟩:=zbi gh1'
       refine zR H' (fun _=>[]) (W_impl_inRange _ _ _ _ hy') ?_
       refine ops H' ?_
       obtain rfl:=zso gh1'
       refine zG ?_
       exact ⟨rfl,shd [0,3,4,8,9,10,30] [(1,1)] 2 rfl⟩
      ·replace gh1':=(ifT hc').symm.trans gh1'
       refine ops H' ?_
       obtain rfl:=zso gh1'
       refine zG ?_
       exact ⟨rfl,shd [0,3,4,8,9,10,30] [(1,1)] 2 rfl⟩
     ·rintro e' rfl
      simp only [List.drop_succ_cons,List.drop_zero]
      refine zE ?_
      refine zH (fun hc'=>?_) (fun hc'=>?_)
      ·replace h1':=(ifT hc').symm.trans h1'
       refine zB ?_
       refine zA ?_
       refine ops H' ?_
       refine zE ?_
       refine zN ?_
       obtain rfl:=zso h1'
       refine ⟨_,rfl,fun hr'=>?_⟩
       subst hr'
       obtain rfl:=zso h0'
       exact zO H' rfl rfl
      ·replace h1':=(ifF hc').symm.trans h1'
       refine zM ?_
       refine zB ?_
       refine regQ ?_
       refine ops H' ?_
       obtain ⟨b_2,gh1',h1'⟩:=zbi h1'
       refine quV_cut 10 (fun e'=>e'=⟨53,1,2,[(0,.pl (.one (.v (.list false 3 (List.map (zJ true) list_))))),(3,.pl (.one (.v (.sc (.int .i64 x10))))),(4,.pl (.one (.ref 1 []))),(8,.pl (.one (.v (.list false 3 (List.map (zJ true) list_))))),(9,.pl (.one (.v (.sc (.int .i64 (list_.length:Int)))))),(10,.pl (.one (.v (.sc (.int .i64 x10))))),(43,.pl (.one (.v (.sc (.bool b_2)))))],[(1,.box true [.sc (.string x.Path),.sc (.int .i64 x.Id),.sc (.int .i64 x.Version)])]⟩) ?_ ?_
       ·simp only [List.take_succ_cons,List.take_zero]
        refine quV_sp (fun hc'=>?_) (fun hc'=>?_)
        ·replace gh1':=(ifT hc').symm.trans gh1'
         obtain ⟨x_1,hv',gh1'⟩:=zbi gh1'
         have H':=And.intro (zP hv') H'
         refine ops H' ?_
         obtain rfl:=zso gh1'
         refine qU ?_
         exact ⟨rfl,shd [0,3,4,8,9,10,43] [(1,1)] 2 rfl⟩
        ·replace gh1':=(ifF hc').symm.trans gh1'
         refine ops H' ?_
         obtain rfl:=zso gh1'
         refine qU ?_
         exact ⟨rfl,shd [0,3,4,8,9,10,43] [(1,1)] 2 rfl⟩
       ·rintro e' rfl
        simp only [List.drop_succ_cons,List.drop_zero]
        refine ops H' ?_
        obtain ⟨b_3,gh1',h1'⟩:=zbi h1'
        refine quV_cut 7 (fun e'=>e'=⟨53,1,1,[(0,.pl (.one (.v (.list false 3 (List.map (zJ true) list_))))),(8,.pl (.one (.v (.list false 3 (List.map (zJ true) list_))))),(9,.pl (.one (.v (.sc (.int .i64 (list_.length:Int)))))),(10,.pl (.one (.v (.sc (.int .i64 x10))))),(51,.pl (.one (.v (.sc (.bool b_3)))))],[]⟩) ?_ ?_
        ·simp only [List.take_succ_cons,List.take_zero]
         refine quV_sp (fun hc'=>?_) (fun hc'=>?_)
         ·replace gh1':=(ifF hc').symm.trans gh1'
          refine ops H' ?_
          obtain ⟨x48,hy',gh1'⟩:=zbi gh1'
          refine callGQ H' (W_impl_idAt _ _ _ hy') ?_
          refine ops H' ?_
          obtain rfl:=zso gh1'
          refine qU ?_
          exact ⟨rfl,shd [0,8,9,10,51] [] 1 rfl⟩
         ·replace gh1':=(ifT hc').symm.trans gh1'
          refine ops H' ?_
          obtain rfl:=zso gh1'
          refine qU ?_
          exact ⟨rfl,shd [0,8,9,10,51] [] 1 rfl⟩
        ·rintro e' rfl
         simp only [List.drop_succ_cons,List.drop_zero]
         refine quN ?_
         refine zH (fun hc'=>?_) (fun hc'=>?_)
         ·replace h1':=(ifT hc').symm.trans h1'
          refine zB ?_
          refine zA ?_
          refine ops H' ?_
          refine zE ?_
          refine zN ?_
          obtain rfl:=zso h1'
          refine ⟨_,rfl,fun hr'=>?_⟩
          subst hr'
          obtain rfl:=zso h0'
          exact zO H' rfl rfl
         ·replace h1':=(ifF hc').symm.trans h1'
          refine zM ?_
          refine zA ?_
          refine ops H' ?_
          refine zE ?_
          obtain rfl:=zso h1'
          exact shd [0,8,9,10] [] 1 ⟨_,rfl,rfl⟩
   ·replace h1':=(ifF hc').symm.trans h1'
    refine qJ ?_
    obtain rfl:=zso h1'
    refine ⟨_,rfl,fun hr'=>?_⟩
    subst hr'
    exact shd [] [] 1 ⟨h0',rfl⟩
  ·rintro e' ⟨h0',rfl⟩
   unfold impl_NamesOk_j1 at h0'
   refine zB ?_
   refine zA ?_
   refine ops H' ?_
   refine zE ?_
   refine zN ?_
   obtain rfl:=zso h0'
   exact zO H' rfl rfl
theorem W_impl_CommitsOk (list_:List T_impl_Commit) (versions:List Int) (r':Bool) (h0':impl_CommitsOk list_ versions=some r'):Fn X 141 [.one (.list false 3 (List.map (zC false) list_)),.one (.list false 1 (List.map (rK .i64) versions))] [.one (.sc (.bool r'))] []:=by
 have H':=And.intro t3 (And.intro t9 (And.intro t24 (And.intro t40 (And.intro t41 (And.intro t43 (And.intro t45 (And.intro qT (And.intro qI (And.intro zZ (qK))))))))))
 unfold impl_CommitsOk at h0'
 refine Fn.start (fn:=f141) (N:=75) (res:=[.tmp 4]) rfl rfl rfl rfl rfl (by simp) ?_
 refine zU H' ?_
 refine zB ?_
 refine zA ?_
 refine ops H' ?_
 refine zE ?_
 refine zB ?_
 refine zB ?_
 refine zA ?_
 refine ops H' ?_
 obtain ⟨b,gh0',h0'⟩:=zbi h0'
 refine qC 5 (fun e'=>e'=⟨75,2,2,[(0,.pl (.one (.v (.list false 3 (List.map (zC false) list_))))),(1,.pl (.one (.v (.list false 1 (List.map (rK .i64) versions))))),(19,.pl (.one (.v (.sc (.bool b)))))],[]⟩) ?_ ?_
 ·simp only [List.take_succ_cons,List.take_zero]
  refine qE (fun hc'=>?_) (fun hc'=>?_)
  ·replace gh0':=(ifF hc').symm.trans gh0'
   refine ops H' ?_
   obtain ⟨x16,hy',gh0'⟩:=zbi gh0'
   refine callGD H' (fun _=>[]) (W_impl_graphOf _ _ hy') ?_
   refine ops H' ?_
   obtain ⟨x17,hy',gh0'⟩:=zbi gh0'
   refine zR H' (fun _=>[]) (W_impl_GraphOk _ _ hy') ?_
   refine ops H' ?_
   obtain rfl:=zso gh0'
   refine zG ?_
   exact ⟨rfl,shd [0,1,19] [] 2 rfl⟩
  ·replace gh0':=(ifT hc').symm.trans gh0'
   refine ops H' ?_
   obtain rfl:=zso gh0'
   refine zG ?_
   exact ⟨rfl,shd [0,1,19] [] 2 rfl⟩
 ·rintro e' rfl
  simp only [List.drop_succ_cons,List.drop_zero]
  refine ops H' ?_
  obtain ⟨b_1,gh0',h0'⟩:=zbi h0'
  refine qC 4 (fun e'=>e'=⟨75,2,2,[(0,.pl (.one (.v (.list false 3 (List.map (zC false) list_))))),(1,.pl (.one (.v (.list false 1 (List.map (rK .i64) versions))))),(24,.pl (.one (.v (.sc (.bool b_1)))))],[]⟩) ?_ ?_
  ·simp only [List.take_succ_cons,List.take_zero]
   refine qE (fun hc'=>?_) (fun hc'=>?_)
   ·replace gh0':=(ifF hc').symm.trans gh0'
    refine ops H' ?_
    obtain rfl:=zso gh0'
    refine zG ?_
    exact ⟨rfl,shd [0,1,24] [] 2 rfl⟩
   ·replace gh0':=(ifT hc').symm.trans gh0'
    refine ops H' ?_
    obtain rfl:=zso gh0'
    refine zG ?_
    exact ⟨rfl,shd [0,1,24] [] 2 rfl⟩
  ·rintro e' rfl
   simp only [List.drop_succ_cons,List.drop_zero]
   refine zE ?_
   refine zH (fun hc'=>?_) (fun hc'=>?_)
   ·replace h0':=(ifT hc').symm.trans h0'
    refine zB ?_
    refine zA ?_
    refine ops H' ?_
    refine zE ?_
    refine zN ?_
    obtain rfl:=zso h0'
    exact zO H' rfl rfl
   ·replace h0':=(ifF hc').symm.trans h0'
    refine zM ?_
    refine zV (fun e'=>impl_CommitsOk_j1 list_ versions=some r'∧e'=⟨75,2,2,[(0,.pl (.one (.v (.list false 3 (List.map (zC false) list_))))),(1,.pl (.one (.v (.list false 1 (List.map (rK .i64) versions)))))],[]⟩) ?_ ?_
    ·refine zB ?_
     refine zA ?_
     refine ops H' ?_
     refine zE ?_
     obtain ⟨p_2,hl',h0'⟩:=zbi h0'
     refine zI ?_
     refine zS (fun x27 e'=>e'=⟨75,2,2,[(0,.pl (.one (.v (.list false 3 (List.map (zC false) list_))))),(1,.pl (.one (.v (.list false 1 (List.map (rK .i64) versions))))),(25,.pl (.one (.v (.list false 1 (List.map (rK .i64) versions))))),(26,.pl (.one (.v (.sc (.int .i64 (versions.length:Int)))))),(27,.pl (.one (.v (.sc (.int .i64 x27)))))],[]⟩) hl' (shd [0,1,25,26,27] [] 2 rfl) ?_
     rintro x27 y1' e' h1' rfl
     replace h1':impl_CommitsOk_l3 versions x27=some y1':=h1'
     unfold impl_CommitsOk_l3 at h1'
     refine zB ?_
     refine zA ?_
     refine ops H' ?_
     refine zE ?_
     refine zB ?_
     refine zH (fun hc'=>?_) (fun hc'=>?_)
     ·replace h1':=(ifT hc').symm.trans h1'
      refine zM ?_
      refine zB ?_
      refine zI ?_
      refine zB ?_
      refine zA ?_
      obtain ⟨x_3,hv',h1'⟩:=zbi h1'
      have H':=And.intro (zP hv') H'
      refine ops H' ?_
      refine zE ?_
      refine zB ?_
      refine zA ?_
      refine ops H' ?_
      obtain ⟨x32,hy',h1'⟩:=zbi h1'
      refine zR H' (fun _=>[]) (W_impl_inRange _ _ _ _ hy') ?_
      refine ops H' ?_
      refine zE ?_
      refine zH (fun hc'=>?_) (fun hc'=>?_)
      ·replace h1':=(ifT hc').symm.trans h1'
       refine zB ?_
       refine zA ?_
       refine ops H' ?_
       refine zE ?_
       refine zN ?_
       obtain rfl:=zso h1'
       refine ⟨_,rfl,fun hr'=>?_⟩
       subst hr'
       obtain rfl:=zso h0'
       exact zO H' rfl rfl
      ·replace h1':=(ifF hc').symm.trans h1'
       refine zM ?_
       refine zA ?_
       refine ops H' ?_
       refine zE ?_
       obtain rfl:=zso h1'
       exact shd [0,1,25,26,27] [] 2 ⟨_,rfl,rfl⟩
     ·replace h1':=(ifF hc').symm.trans h1'
      refine qJ ?_
      obtain rfl:=zso h1'
      refine ⟨_,rfl,fun hr'=>?_⟩
      subst hr'
      exact shd [0,1] [] 2 ⟨h0',rfl⟩
    ·rintro e' ⟨h0',rfl⟩
     unfold impl_CommitsOk_j1 at h0'
     refine zV (fun e'=>impl_CommitsOk_j2=some r'∧e'=⟨75,2,2,[],[]⟩) ?_ ?_
     ·refine zB ?_
      refine zA ?_
      refine ops H' ?_
      refine zE ?_
      obtain ⟨p,hl',h0'⟩:=zbi h0'
      refine zI ?_
      refine zS (fun x37 e'=>e'=⟨75,2,2,[(1,.pl (.one (.v (.list false 1 (List.map (rK .i64) versions))))),(35,.pl (.one (.v (.list false 3 (List.map (zC false) list_))))),(36,.pl (.one (.v (.sc (.int .i64 (list_.length:Int)))))),(37,.pl (.one (.v (.sc (.int .i64 x37)))))],[]⟩) hl' (shd [1,35,36,37] [] 2 rfl) ?_
      rintro x37 y1' e' h1' rfl
      replace h1':impl_CommitsOk_l1 list_ versions x37=some y1':=h1'
      unfold impl_CommitsOk_l1 at h1'
      refine zB ?_
      refine zA ?_
      refine ops H' ?_
      refine zE ?_
      refine zB ?_
      refine zH (fun hc'=>?_) (fun hc'=>?_)
      ·replace h1':=(ifT hc').symm.trans h1'
       refine zM ?_
       refine zV (fun e'=>impl_CommitsOk_j3 x37=some y1'∧e'=⟨75,2,2,[(1,.pl (.one (.v (.list false 1 (List.map (rK .i64) versions))))),(35,.pl (.one (.v (.list false 3 (List.map (zC false) list_))))),(36,.pl (.one (.v (.sc (.int .i64 (list_.length:Int)))))),(37,.pl (.one (.v (.sc (.int .i64 x37)))))],[]⟩) ?_ ?_
       ·refine zI ?_
        refine zB ?_
        refine zA ?_
        obtain ⟨x,hv',h1'⟩:=zbi h1'
        have H':=And.intro (zP hv') H'
        refine ops H' ?_
        refine zE ?_
        refine zB ?_
        refine zB ?_
        refine zA ?_
        refine ops H' ?_
        obtain ⟨x43,hy',h1'⟩:=zbi h1'
        refine zR H' (fun _=>[]) (W_impl_NoteOk _ _ hy') ?_
        refine ops H' ?_
        obtain ⟨b_2,gh1',h1'⟩:=zbi h1'
        refine qC 5 (fun e'=>e'=⟨75,2,3,[(1,.pl (.one (.v (.list false 1 (List.map (rK .i64) versions))))),(8,.pl (.one (.ref 2 []))),(35,.pl (.one (.v (.list false 3 (List.map (zC false) list_))))),(36,.pl (.one (.v (.sc (.int .i64 (list_.length:Int)))))),(37,.pl (.one (.v (.sc (.int .i64 x37))))),(50,.pl (.one (.v (.sc (.bool b_2)))))],[(2,.box true [.list false 1 (List.map (rK .i64) x.Parents),.sc (.string x.Note),.list false 3 (List.map (zJ true) x.Names)])]⟩) ?_ ?_
        ·simp only [List.take_succ_cons,List.take_zero]
         refine qE (fun hc'=>?_) (fun hc'=>?_)
         ·replace gh1':=(ifF hc').symm.trans gh1'
          refine ops H' ?_
          obtain ⟨x48,hy',gh1'⟩:=zbi gh1'
          refine zR H' (fun _=>[]) (W_impl_NamesOk _ _ hy') ?_
          refine ops H' ?_
          obtain rfl:=zso gh1'
          refine zG ?_
          exact ⟨rfl,shd [1,8,35,36,37,50] [(2,2)] 3 rfl⟩
         ·replace gh1':=(ifT hc').symm.trans gh1'
          refine ops H' ?_
          obtain rfl:=zso gh1'
          refine zG ?_
          exact ⟨rfl,shd [1,8,35,36,37,50] [(2,2)] 3 rfl⟩
        ·rintro e' rfl
         simp only [List.drop_succ_cons,List.drop_zero]
         refine zE ?_
         refine zH (fun hc'=>?_) (fun hc'=>?_)
         ·replace h1':=(ifT hc').symm.trans h1'
          refine zB ?_
          refine zA ?_
          refine ops H' ?_
          refine zE ?_
          refine zN ?_
          obtain rfl:=zso h1'
          refine ⟨_,rfl,fun hr'=>?_⟩
          subst hr'
          obtain rfl:=zso h0'
          exact zO H' rfl rfl
         ·replace h1':=(ifF hc').symm.trans h1'
          refine zM ?_
          refine zB ?_
          refine zA ?_
          refine ops H' ?_
          refine zE ?_
          obtain ⟨p_1,hl',h1'⟩:=zbi h1'
          refine zI ?_
          refine zS (fun x54 e'=>e'=⟨75,2,2,[(1,.pl (.one (.v (.list false 1 (List.map (rK .i64) versions))))),(35,.pl (.one (.v (.list false 3 (List.map (zC false) list_))))),(36,.pl (.one (.v (.sc (.int .i64 (list_.length:Int)))))),(37,.pl (.one (.v (.sc (.int .i64 x37))))),(52,.pl (.one (.v (.list false 3 (List.map (zJ true) x.Names))))),(53,.pl (.one (.v (.sc (.int .i64 (x.Names.length:Int)))))),(54,.pl (.one (.v (.sc (.int .i64 x54)))))],[]⟩) hl' (shd [1,35,36,37,52,53,54] [] 2 rfl) ?_
          rintro x54 y2' e' h2' rfl
          replace h2':impl_CommitsOk_l2 versions x x54=some y2':=h2'
          unfold impl_CommitsOk_l2 at h2'
          refine zB ?_
          refine zA ?_
          refine ops H' ?_
          refine zE ?_
          refine zB ?_
          refine zH (fun hc'=>?_) (fun hc'=>?_)
          ·replace h2':=(ifT hc').symm.trans h2'
           refine zM ?_
           refine zB ?_
           refine zI ?_
           refine zB ?_
           refine zA ?_
           obtain ⟨x_1,hv',h2'⟩:=zbi h2'
           have H':=And.intro (zP hv') H'
           refine ops H' ?_
           refine zE ?_
           refine zB ?_
           refine regQ ?_
           refine ops H' ?_
           obtain ⟨b_3,gh2',h2'⟩:=zbi h2'
           refine quV_cut 9 (fun e'=>e'=⟨75,2,2,[(1,.pl (.one (.v (.list false 1 (List.map (rK .i64) versions))))),(35,.pl (.one (.v (.list false 3 (List.map (zC false) list_))))),(36,.pl (.one (.v (.sc (.int .i64 (list_.length:Int)))))),(37,.pl (.one (.v (.sc (.int .i64 x37))))),(52,.pl (.one (.v (.list false 3 (List.map (zJ true) x.Names))))),(53,.pl (.one (.v (.sc (.int .i64 (x.Names.length:Int)))))),(54,.pl (.one (.v (.sc (.int .i64 x54))))),(72,.pl (.one (.v (.sc (.bool b_3)))))],[]⟩) ?_ ?_
           ·simp only [List.take_succ_cons,List.take_zero]
            refine quV_sp (fun hc'=>?_) (fun hc'=>?_)
            ·replace gh2':=(ifF hc').symm.trans gh2'
             obtain ⟨x_2,hv',gh2'⟩:=zbi gh2'
             have H':=And.intro (zP hv') H'
             refine ops H' ?_
             obtain rfl:=zso gh2'
             refine qU ?_
             exact ⟨rfl,shd [1,35,36,37,52,53,54,72] [] 2 rfl⟩
            ·replace gh2':=(ifT hc').symm.trans gh2'
             refine ops H' ?_
             obtain rfl:=zso gh2'
             refine qU ?_
             exact ⟨rfl,shd [1,35,36,37,52,53,54,72] [] 2 rfl⟩
           ·rintro e' rfl
            simp only [List.drop_succ_cons,List.drop_zero]
            refine quN ?_
            refine zH (fun hc'=>?_) (fun hc'=>?_)
            ·replace h2':=(ifT hc').symm.trans h2'
             refine zB ?_
             refine zA ?_
             refine ops H' ?_
             refine zE ?_
             refine zN ?_
             obtain rfl:=zso h2'
             refine ⟨_,rfl,fun hr'=>?_⟩
             subst hr'
             obtain rfl:=zso h1'
             refine ⟨_,rfl,fun hr'=>?_⟩
             subst hr'
             obtain rfl:=zso h0'
             exact zO H' rfl rfl
            ·replace h2':=(ifF hc').symm.trans h2'
             refine zM ?_
             refine zA ?_
             refine ops H' ?_
             refine zE ?_
             obtain rfl:=zso h2'
             exact shd [1,35,36,37,52,53,54] [] 2 ⟨_,rfl,rfl⟩
          ·replace h2':=(ifF hc').symm.trans h2'
           refine qJ ?_
           obtain rfl:=zso h2'
           refine ⟨_,rfl,fun hr'=>?_⟩
           subst hr'
           exact shd [1,35,36,37] [] 2 ⟨h1',rfl⟩
       ·rintro e' ⟨h1',rfl⟩
        unfold impl_CommitsOk_j3 at h1'
        refine zA ?_
        refine ops H' ?_
        refine zE ?_
        obtain rfl:=zso h1'
        exact shd [1,35,36,37] [] 2 ⟨_,rfl,rfl⟩
      ·replace h1':=(ifF hc').symm.trans h1'
       refine qJ ?_
       obtain rfl:=zso h1'
       refine ⟨_,rfl,fun hr'=>?_⟩
       subst hr'
       exact shd [] [] 2 ⟨h0',rfl⟩
     ·rintro e' ⟨h0',rfl⟩
      unfold impl_CommitsOk_j2 at h0'
      refine zB ?_
      refine zA ?_
      refine ops H' ?_
      refine zE ?_
      refine zN ?_
      obtain rfl:=zso h0'
      exact zO H' rfl rfl
theorem W_impl_StoreOk (s:T_impl_Store) (r':Bool) (h0':impl_StoreOk s=some r'):Fn X 51 [.agg [.list false 3 (List.map (zC false) s.Commits),.list false 2 (List.map (zD false) s.Files)]] [.one (.sc (.bool r'))] []:=by
 have H':=And.intro t3 (And.intro t24 (And.intro t25 (And.intro t27 (And.intro t33 (And.intro t36 (And.intro R_LLi64 (And.intro qT (And.intro qL (And.intro qI (And.intro zZ (And.intro qV (qK))))))))))))
 unfold impl_StoreOk at h0'
 refine Fn.start (fn:=f51) (N:=33) (res:=[.tmp 2]) rfl rfl rfl rfl rfl (by simp) ?_
 refine zU H' ?_
 refine zB ?_
 refine zA ?_
 refine ops H' ?_
 refine zE ?_
 refine zV (fun e'=>impl_StoreOk_j1 s=some r'∧e'=⟨33,2,3,[(1,.pl (.one (.ref 2 [])))],[(2,.box true [.list false 3 (List.map (zC false) s.Commits),.list false 2 (List.map (zD false) s.Files)])]⟩) ?_ ?_
 ·refine zB ?_
  refine zA ?_
  refine ops H' ?_
  refine zE ?_
  obtain ⟨p,hl',h0'⟩:=zbi h0'
  refine zI ?_
  refine zS (fun x8 e'=>e'=⟨33,2,3,[(1,.pl (.one (.ref 2 []))),(6,.pl (.one (.v (.list false 2 (List.map (zD false) s.Files))))),(7,.pl (.one (.v (.sc (.int .i64 (s.Files.length:Int)))))),(8,.pl (.one (.v (.sc (.int .i64 x8)))))],[(2,.box true [.list false 3 (List.map (zC false) s.Commits),.list false 2 (List.map (zD false) s.Files)])]⟩) hl' (shd [1,6,7,8] [(2,2)] 3 rfl) ?_
  rintro x8 y1' e' h1' rfl
  replace h1':impl_StoreOk_l1 s x8=some y1':=h1'
  unfold impl_StoreOk_l1 at h1'
  refine zB ?_
  refine zA ?_
  refine ops H' ?_
  refine zE ?_
  refine zB ?_
  refine zH (fun hc'=>?_) (fun hc'=>?_)
  ·replace h1':=(ifT hc').symm.trans h1'
   refine zM ?_
   refine zB ?_
   refine zI ?_
   refine zB ?_
   refine zA ?_
   obtain ⟨x,hv',h1'⟩:=zbi h1'
   have H':=And.intro (zP hv') H'
   refine ops H' ?_
   refine zE ?_
   refine zB ?_
   refine zA ?_
   refine ops H' ?_
   obtain ⟨b_1,gh1',h1'⟩:=zbi h1'
   refine qC 4 (fun e'=>e'=⟨33,2,3,[(1,.pl (.one (.ref 2 []))),(6,.pl (.one (.v (.list false 2 (List.map (zD false) s.Files))))),(7,.pl (.one (.v (.sc (.int .i64 (s.Files.length:Int)))))),(8,.pl (.one (.v (.sc (.int .i64 x8))))),(20,.pl (.one (.v (.sc (.bool b_1)))))],[(2,.box true [.list false 3 (List.map (zC false) s.Commits),.list false 2 (List.map (zD false) s.Files)])]⟩) ?_ ?_
   ·simp only [List.take_succ_cons,List.take_zero]
    refine qE (fun hc'=>?_) (fun hc'=>?_)
    ·replace gh1':=(ifF hc').symm.trans gh1'
     refine ops H' ?_
     obtain ⟨x18,hy',gh1'⟩:=zbi gh1'
     refine zR H' (fun _=>[]) (W_impl_WeaveOk _ _ hy') ?_
     refine ops H' ?_
     obtain rfl:=zso gh1'
     refine zG ?_
     exact ⟨rfl,shd [1,6,7,8,20] [(2,2)] 3 rfl⟩
    ·replace gh1':=(ifT hc').symm.trans gh1'
     refine ops H' ?_
     obtain rfl:=zso gh1'
     refine zG ?_
     exact ⟨rfl,shd [1,6,7,8,20] [(2,2)] 3 rfl⟩
   ·rintro e' rfl
    simp only [List.drop_succ_cons,List.drop_zero]
    refine zE ?_
    refine zH (fun hc'=>?_) (fun hc'=>?_)
    ·replace h1':=(ifT hc').symm.trans h1'
     refine zB ?_
     refine zA ?_
     refine ops H' ?_
     refine zE ?_
     refine zN ?_
     obtain rfl:=zso h1'
     refine ⟨_,rfl,fun hr'=>?_⟩
     subst hr'
     obtain rfl:=zso h0'
     exact zO H' rfl rfl
    ·replace h1':=(ifF hc').symm.trans h1'
     refine zM ?_
     refine zA ?_
     refine ops H' ?_
     refine zE ?_
     obtain rfl:=zso h1'
     exact shd [1,6,7,8] [(2,2)] 3 ⟨_,rfl,rfl⟩
  ·replace h1':=(ifF hc').symm.trans h1'
   refine qJ ?_
   obtain rfl:=zso h1'
   refine ⟨_,rfl,fun hr'=>?_⟩
   subst hr'
   exact shd [1] [(2,2)] 3 ⟨h0',rfl⟩
 ·rintro e' ⟨h0',rfl⟩
  unfold impl_StoreOk_j1 at h0'
  refine zB ?_
  refine wpV_frz H' 2 ?_
  obtain ⟨b,gh0_7_0,h0'⟩:=zbi h0'
  refine wpV_J (fun e'=>e'=⟨33,2,2,[(2,.pl (.one (.v (.sc (.bool b)))))],[]⟩) ?_ ?_
  ·rcases Bool.eq_false_or_eq_true (decide ((s.Files.length:Int)≤12)) with hc4_7_0 | hc4_7_0
   ·replace gh0_7_0:=(ifT hc4_7_0).symm.trans gh0_7_0
    obtain ⟨x29,hy_x29,gh0_7_0⟩:=zbi gh0_7_0
    obtain ⟨x30,hy_x30,gh0_7_0⟩:=zbi gh0_7_0
    obtain ⟨x31,hy_x31,gh0_7_0⟩:=zbi gh0_7_0
    obtain rfl:=zso gh0_7_0
    refine regAnyF [(1,23,.pl (.one (.v (.list false 2 (List.map (zD false) s.Files))))),(2,24,.pl (.one (.v (.sc (.int .i64 (s.Files.length:Int)))))),(3,25,.pl (.one (.v (.sc (.bool (decide ((s.Files.length:Int)≤12))))))),(4,26,.pl (.one (.v (.sc (.bool (decide ((s.Files.length:Int)≤12))))))),(5,27,.pl (.one (.ba [.list false 3 (List.map (zC false) s.Commits),.list false 2 (List.map (zD false) s.Files)]))),(6,28,.pl (.one (.v (.list false 3 (List.map (zC false) s.Commits))))),(9,31,.pl (.one (.v (.sc (.bool x31))))),(10,32,.pl (.one (.v (.sc (.bool x31))))),(11,2,.pl (.one (.v (.sc (.bool x31)))))] ?_
    refine (?_:anyF X ?o0 _ _ ?P0 _)
    have d0':anyF X ?o0 [0,1,2,3,4,7,8] [(5,27,.pl (.one (.ba [.list false 3 (List.map (zC false) s.Commits),.list false 2 (List.map (zD false) s.Files)]))),(6,28,.pl (.one (.v (.list false 3 (List.map (zC false) s.Commits))))),(9,31,.pl (.one (.v (.sc (.bool x31))))),(10,32,.pl (.one (.v (.sc (.bool x31))))),(11,2,.pl (.one (.v (.sc (.bool x31)))))] ?P0 ⟨33,2,3,[(1,.pl (.one (.v (.box false [.list false 3 (List.map (zC false) s.Commits),.list false 2 (List.map (zD false) s.Files)])))),(26,.pl (.one (.v (.sc (.bool (decide ((s.Files.length:Int)≤12))))))),(30,.pl (.one (.ref 2 [])))],[(2,.list true 1 (List.map (rK .i64) x30))]⟩:=by
     refine fend (e2:=⟨33,2,3,[(27,.pl (.one (.ba [.list false 3 (List.map (zC false) s.Commits),.list false 2 (List.map (zD false) s.Files)]))),(28,.pl (.one (.v (.list false 3 (List.map (zC false) s.Commits))))),(31,.pl (.one (.v (.sc (.bool x31))))),(32,.pl (.one (.v (.sc (.bool x31))))),(2,.pl (.one (.v (.sc (.bool x31))))),(1,.pl (.one (.v (.box false [.list false 3 (List.map (zC false) s.Commits),.list false 2 (List.map (zD false) s.Files)])))),(26,.pl (.one (.v (.sc (.bool (decide ((s.Files.length:Int)≤12))))))),(30,.pl (.one (.ref 2 [])))],[(2,.list true 1 (List.map (rK .i64) x30))]⟩) [5,6,9,10,11] [.q 5 27 (.pl (.one (.ba [.list false 3 (List.map (zC false) s.Commits),.list false 2 (List.map (zD false) s.Files)]))) [],.q 6 28 (.pl (.one (.v (.list false 3 (List.map (zC false) s.Commits))))) [5],.q 9 31 (.pl (.one (.v (.sc (.bool x31))))) [6],.q 10 32 (.pl (.one (.v (.sc (.bool x31))))) [9],.q 11 2 (.pl (.one (.v (.sc (.bool x31))))) [5,6,9,10]] [(5,27),(6,28),(9,31),(10,32),(11,2)] [(5,true,[],[]),(6,true,[5],[]),(9,true,[6],[]),(10,true,[9],[]),(11,true,[5,6,9,10],[])] ⟨?_,?_,?_,?_,?_,trivial⟩ ⟨rfl,shd [2] [] 2 rfl⟩
     ·refine qB 0 ⟨33,2,3,[(1,.pl (.one (.v (.box false [.list false 3 (List.map (zC false) s.Commits),.list false 2 (List.map (zD false) s.Files)])))),(26,.pl (.one (.v (.sc (.bool (decide ((s.Files.length:Int)≤12))))))),(30,.pl (.one (.ref 2 [])))],[(2,.list true 1 (List.map (rK .i64) x30))]⟩ ?_
      refine opsOn hc4_7_0 ?_
      refine ops H' ?_
      refine zG ⟨rfl,shd [27,1,26,30] [(2,2)] 3 rfl⟩
     ·refine qB 1 ⟨33,2,3,[(27,.pl (.one (.ba [.list false 3 (List.map (zC false) s.Commits),.list false 2 (List.map (zD false) s.Files)]))),(1,.pl (.one (.v (.box false [.list false 3 (List.map (zC false) s.Commits),.list false 2 (List.map (zD false) s.Files)])))),(26,.pl (.one (.v (.sc (.bool (decide ((s.Files.length:Int)≤12))))))),(30,.pl (.one (.ref 2 [])))],[(2,.list true 1 (List.map (rK .i64) x30))]⟩ ?_
      refine opsOn hc4_7_0 ?_
      refine ops H' ?_
      refine zG ⟨rfl,shd [28,1,26,30] [(2,2)] 3 rfl⟩
     ·refine qB 2 ⟨33,2,3,[(28,.pl (.one (.v (.list false 3 (List.map (zC false) s.Commits))))),(1,.pl (.one (.v (.box false [.list false 3 (List.map (zC false) s.Commits),.list false 2 (List.map (zD false) s.Files)])))),(26,.pl (.one (.v (.sc (.bool (decide ((s.Files.length:Int)≤12))))))),(30,.pl (.one (.ref 2 [])))],[(2,.list true 1 (List.map (rK .i64) x30))]⟩ ?_
      refine opsOn hc4_7_0 ?_
      refine zR H' (fun _=>[]) (W_impl_CommitsOk _ _ _ hy_x31) ?_
      refine zG ⟨rfl,shd [31,1,26,30] [(2,2)] 3 rfl⟩
     ·refine qB 3 ⟨33,2,3,[(31,.pl (.one (.v (.sc (.bool x31))))),(1,.pl (.one (.v (.box false [.list false 3 (List.map (zC false) s.Commits),.list false 2 (List.map (zD false) s.Files)])))),(26,.pl (.one (.v (.sc (.bool (decide ((s.Files.length:Int)≤12))))))),(30,.pl (.one (.ref 2 [])))],[(2,.list true 1 (List.map (rK .i64) x30))]⟩ ?_
      refine opsPick H' hc4_7_0 ?_
      refine zG ⟨rfl,shd [32,1,26,30] [(2,2)] 3 rfl⟩
     ·refine qB 4 ⟨33,2,3,[(27,.pl (.one (.ba [.list false 3 (List.map (zC false) s.Commits),.list false 2 (List.map (zD false) s.Files)]))),(28,.pl (.one (.v (.list false 3 (List.map (zC false) s.Commits))))),(31,.pl (.one (.v (.sc (.bool x31))))),(32,.pl (.one (.v (.sc (.bool x31))))),(1,.pl (.one (.v (.box false [.list false 3 (List.map (zC false) s.Commits),.list false 2 (List.map (zD false) s.Files)])))),(26,.pl (.one (.v (.sc (.bool (decide ((s.Files.length:Int)≤12))))))),(30,.pl (.one (.ref 2 [])))],[(2,.list true 1 (List.map (rK .i64) x30))]⟩ ?_
      refine ops H' ?_
      refine zG ⟨rfl,shd [2,1,26,30] [(2,2)] 3 rfl⟩
    have d1':anyF X ?o0 [0,1,2,3,4,7] [(5,27,.pl (.one (.ba [.list false 3 (List.map (zC false) s.Commits),.list false 2 (List.map (zD false) s.Files)]))),(6,28,.pl (.one (.v (.list false 3 (List.map (zC false) s.Commits))))),(9,31,.pl (.one (.v (.sc (.bool x31))))),(10,32,.pl (.one (.v (.sc (.bool x31))))),(11,2,.pl (.one (.v (.sc (.bool x31)))))] ?P0 ⟨33,2,3,[(1,.pl (.one (.v (.box false [.list false 3 (List.map (zC false) s.Commits),.list false 2 (List.map (zD false) s.Files)])))),(26,.pl (.one (.v (.sc (.bool (decide ((s.Files.length:Int)≤12))))))),(29,.pl (.one (.ref 2 [])))],[(2,.list true 1 (List.map (rL false 1 (rL false 1 (rK .i64))) x29))]⟩:=by
     refine fnode [5,6] [.q 5 27 (.pl (.one (.ba [.list false 3 (List.map (zC false) s.Commits),.list false 2 (List.map (zD false) s.Files)]))) [],.q 6 28 (.pl (.one (.v (.list false 3 (List.map (zC false) s.Commits))))) [5],.m 8 [] [0,1,2,3,4,7,8] [(5,27,.pl (.one (.ba [.list false 3 (List.map (zC false) s.Commits),.list false 2 (List.map (zD false) s.Files)]))),(6,28,.pl (.one (.v (.list false 3 (List.map (zC false) s.Commits))))),(9,31,.pl (.one (.v (.sc (.bool x31))))),(10,32,.pl (.one (.v (.sc (.bool x31))))),(11,2,.pl (.one (.v (.sc (.bool x31)))))]] [(5,27),(6,28),(9,31),(10,32),(11,2)] [(5,true,[],[]),(6,true,[5],[]),(8,false,[],[0,1,2,3,4,7,8])] ⟨?_,?_,?_,trivial⟩
     ·refine qB 0 ⟨33,2,3,[(1,.pl (.one (.v (.box false [.list false 3 (List.map (zC false) s.Commits),.list false 2 (List.map (zD false) s.Files)])))),(26,.pl (.one (.v (.sc (.bool (decide ((s.Files.length:Int)≤12))))))),(29,.pl (.one (.ref 2 [])))],[(2,.list true 1 (List.map (rL false 1 (rL false 1 (rK .i64))) x29))]⟩ ?_
      refine opsOn hc4_7_0 ?_
      refine ops H' ?_
      refine zG ⟨rfl,shd [27,1,26,29] [(2,2)] 3 rfl⟩
     ·refine qB 1 ⟨33,2,3,[(27,.pl (.one (.ba [.list false 3 (List.map (zC false) s.Commits),.list false 2 (List.map (zD false) s.Files)]))),(1,.pl (.one (.v (.box false [.list false 3 (List.map (zC false) s.Commits),.list false 2 (List.map (zD false) s.Files)])))),(26,.pl (.one (.v (.sc (.bool (decide ((s.Files.length:Int)≤12))))))),(29,.pl (.one (.ref 2 [])))],[(2,.list true 1 (List.map (rL false 1 (rL false 1 (rK .i64))) x29))]⟩ ?_
      refine opsOn hc4_7_0 ?_
      refine ops H' ?_
      refine zG ⟨rfl,shd [28,1,26,29] [(2,2)] 3 rfl⟩
     ·refine obMx ⟨33,2,3,[(1,.pl (.one (.v (.box false [.list false 3 (List.map (zC false) s.Commits),.list false 2 (List.map (zD false) s.Files)])))),(26,.pl (.one (.v (.sc (.bool (decide ((s.Files.length:Int)≤12))))))),(29,.pl (.one (.ref 2 [])))],[(2,.list true 1 (List.map (rL false 1 (rL false 1 (rK .i64))) x29))]⟩ ?_
      refine opsOn hc4_7_0 ?_
      refine zR H' (fun _=>[]) (W_impl_sizesOf _ _ hy_x30) ?_
      refine zG ⟨rfl,.inl ⟨rfl,?_⟩⟩
      exact qN [1,26,30] [(3,2)] 3 d0'
    have d2':anyF X ?o0 [0] [(1,23,.pl (.one (.v (.list false 2 (List.map (zD false) s.Files))))),(2,24,.pl (.one (.v (.sc (.int .i64 (s.Files.length:Int)))))),(3,25,.pl (.one (.v (.sc (.bool (decide ((s.Files.length:Int)≤12))))))),(4,26,.pl (.one (.v (.sc (.bool (decide ((s.Files.length:Int)≤12))))))),(5,27,.pl (.one (.ba [.list false 3 (List.map (zC false) s.Commits),.list false 2 (List.map (zD false) s.Files)]))),(6,28,.pl (.one (.v (.list false 3 (List.map (zC false) s.Commits))))),(9,31,.pl (.one (.v (.sc (.bool x31))))),(10,32,.pl (.one (.v (.sc (.bool x31))))),(11,2,.pl (.one (.v (.sc (.bool x31)))))] ?P0 ⟨33,2,2,[(1,.pl (.one (.v (.box false [.list false 3 (List.map (zC false) s.Commits),.list false 2 (List.map (zD false) s.Files)])))),(22,.pl (.one (.ba [.list false 2 (List.map (zD false) s.Files)])))],[]⟩:=by
     refine fnode [1,2,3,4,5,6] [.q 1 23 (.pl (.one (.v (.list false 2 (List.map (zD false) s.Files))))) [],.q 2 24 (.pl (.one (.v (.sc (.int .i64 (s.Files.length:Int)))))) [1],.q 3 25 (.pl (.one (.v (.sc (.bool (decide ((s.Files.length:Int)≤12))))))) [2],.q 4 26 (.pl (.one (.v (.sc (.bool (decide ((s.Files.length:Int)≤12))))))) [3],.q 5 27 (.pl (.one (.ba [.list false 3 (List.map (zC false) s.Commits),.list false 2 (List.map (zD false) s.Files)]))) [4],.q 6 28 (.pl (.one (.v (.list false 3 (List.map (zC false) s.Commits))))) [4,5],.m 7 [4,3,2,1] [0,1,2,3,4,7] [(5,27,.pl (.one (.ba [.list false 3 (List.map (zC false) s.Commits),.list false 2 (List.map (zD false) s.Files)]))),(6,28,.pl (.one (.v (.list false 3 (List.map (zC false) s.Commits))))),(9,31,.pl (.one (.v (.sc (.bool x31))))),(10,32,.pl (.one (.v (.sc (.bool x31))))),(11,2,.pl (.one (.v (.sc (.bool x31)))))]] [(1,23),(2,24),(3,25),(4,26),(5,27),(6,28),(9,31),(10,32),(11,2)] [(1,true,[],[]),(2,true,[1],[]),(3,true,[2],[]),(4,true,[3],[]),(5,true,[4],[]),(6,true,[4,5],[]),(7,false,[4,3,2,1],[0,1,2,3,4,7])] ⟨?_,?_,?_,?_,?_,?_,?_,trivial⟩
     ·refine qB 0 ⟨33,2,2,[(1,.pl (.one (.v (.box false [.list false 3 (List.map (zC false) s.Commits),.list false 2 (List.map (zD false) s.Files)])))),(22,.pl (.one (.ba [.list false 2 (List.map (zD false) s.Files)])))],[]⟩ ?_
      refine ops H' ?_
      refine zG ⟨rfl,shd [23,1,22] [] 2 rfl⟩
     ·refine qB 1 ⟨33,2,2,[(23,.pl (.one (.v (.list false 2 (List.map (zD false) s.Files))))),(1,.pl (.one (.v (.box false [.list false 3 (List.map (zC false) s.Commits),.list false 2 (List.map (zD false) s.Files)])))),(22,.pl (.one (.ba [.list false 2 (List.map (zD false) s.Files)])))],[]⟩ ?_
      refine ops H' ?_
      refine zG ⟨rfl,shd [24,1,22] [] 2 rfl⟩
     ·refine qB 2 ⟨33,2,2,[(24,.pl (.one (.v (.sc (.int .i64 (s.Files.length:Int)))))),(1,.pl (.one (.v (.box false [.list false 3 (List.map (zC false) s.Commits),.list false 2 (List.map (zD false) s.Files)])))),(22,.pl (.one (.ba [.list false 2 (List.map (zD false) s.Files)])))],[]⟩ ?_
      refine ops H' ?_
      refine zG ⟨rfl,shd [25,1,22] [] 2 rfl⟩
     ·refine qB 3 ⟨33,2,2,[(25,.pl (.one (.v (.sc (.bool (decide ((s.Files.length:Int)≤12))))))),(1,.pl (.one (.v (.box false [.list false 3 (List.map (zC false) s.Commits),.list false 2 (List.map (zD false) s.Files)])))),(22,.pl (.one (.ba [.list false 2 (List.map (zD false) s.Files)])))],[]⟩ ?_
      refine ops H' ?_
      refine zG ⟨rfl,shd [26,1,22] [] 2 rfl⟩
     ·refine qB 4 ⟨33,2,2,[(26,.pl (.one (.v (.sc (.bool (decide ((s.Files.length:Int)≤12))))))),(1,.pl (.one (.v (.box false [.list false 3 (List.map (zC false) s.Commits),.list false 2 (List.map (zD false) s.Files)])))),(22,.pl (.one (.ba [.list false 2 (List.map (zD false) s.Files)])))],[]⟩ ?_
      refine opsOn hc4_7_0 ?_
      refine ops H' ?_
      refine zG ⟨rfl,shd [27,1,22] [] 2 rfl⟩
     ·refine qB 5 ⟨33,2,2,[(26,.pl (.one (.v (.sc (.bool (decide ((s.Files.length:Int)≤12))))))),(27,.pl (.one (.ba [.list false 3 (List.map (zC false) s.Commits),.list false 2 (List.map (zD false) s.Files)]))),(1,.pl (.one (.v (.box false [.list false 3 (List.map (zC false) s.Commits),.list false 2 (List.map (zD false) s.Files)])))),(22,.pl (.one (.ba [.list false 2 (List.map (zD false) s.Files)])))],[]⟩ ?_
      refine opsOn hc4_7_0 ?_
      refine ops H' ?_
      refine zG ⟨rfl,shd [28,1,22] [] 2 rfl⟩
     ·refine obMx ⟨33,2,2,[(23,.pl (.one (.v (.list false 2 (List.map (zD false) s.Files))))),(24,.pl (.one (.v (.sc (.int .i64 (s.Files.length:Int)))))),(25,.pl (.one (.v (.sc (.bool (decide ((s.Files.length:Int)≤12))))))),(26,.pl (.one (.v (.sc (.bool (decide ((s.Files.length:Int)≤12))))))),(1,.pl (.one (.v (.box false [.list false 3 (List.map (zC false) s.Commits),.list false 2 (List.map (zD false) s.Files)])))),(22,.pl (.one (.ba [.list false 2 (List.map (zD false) s.Files)])))],[]⟩ ?_
      refine opsOn hc4_7_0 ?_
      refine callGD H' (fun _=>[]) (W_impl_Store_graphs _ _ hy_x29) ?_
      refine zG ⟨rfl,.inl ⟨rfl,?_⟩⟩
      exact qN [1,26,29] [(2,2)] 3 d1'
    refine fpure H' 0 [0] [(1,23),(2,24),(3,25),(4,26),(5,27),(6,28),(9,31),(10,32),(11,2)] ?_
    exact qN [1,22] [] 2 d2'
   ·replace gh0_7_0:=(ifF hc4_7_0).symm.trans gh0_7_0
    obtain rfl:=zso gh0_7_0
    refine regAnyF [(1,23,.pl (.one (.v (.list false 2 (List.map (zD false) s.Files))))),(2,24,.pl (.one (.v (.sc (.int .i64 (s.Files.length:Int)))))),(3,25,.pl (.one (.v (.sc (.bool (decide ((s.Files.length:Int)≤12))))))),(4,26,.pl (.one (.v (.sc (.bool (decide ((s.Files.length:Int)≤12))))))),(5,27,.tup []),(6,28,.tup []),(7,29,.tup []),(8,30,.tup []),(9,31,.tup []),(10,32,.pl (.one (.v (.sc (.bool false))))),(11,2,.pl (.one (.v (.sc (.bool false)))))] ?_
    refine (?_:anyF X ?o1 _ _ ?P1 _)
    have d3':anyF X ?o1 [0] [(1,23,.pl (.one (.v (.list false 2 (List.map (zD false) s.Files))))),(2,24,.pl (.one (.v (.sc (.int .i64 (s.Files.length:Int)))))),(3,25,.pl (.one (.v (.sc (.bool (decide ((s.Files.length:Int)≤12))))))),(4,26,.pl (.one (.v (.sc (.bool (decide ((s.Files.length:Int)≤12))))))),(5,27,.tup []),(6,28,.tup []),(7,29,.tup []),(8,30,.tup []),(9,31,.tup []),(10,32,.pl (.one (.v (.sc (.bool false))))),(11,2,.pl (.one (.v (.sc (.bool false)))))] ?P1 ⟨33,2,2,[(1,.pl (.one (.v (.box false [.list false 3 (List.map (zC false) s.Commits),.list false 2 (List.map (zD false) s.Files)])))),(22,.pl (.one (.ba [.list false 2 (List.map (zD false) s.Files)])))],[]⟩:=by
     refine fend (e2:=⟨33,2,2,[(23,.pl (.one (.v (.list false 2 (List.map (zD false) s.Files))))),(24,.pl (.one (.v (.sc (.int .i64 (s.Files.length:Int)))))),(25,.pl (.one (.v (.sc (.bool (decide ((s.Files.length:Int)≤12))))))),(26,.pl (.one (.v (.sc (.bool (decide ((s.Files.length:Int)≤12))))))),(27,.tup []),(28,.tup []),(29,.tup []),(30,.tup []),(31,.tup []),(32,.pl (.one (.v (.sc (.bool false))))),(2,.pl (.one (.v (.sc (.bool false))))),(1,.pl (.one (.v (.box false [.list false 3 (List.map (zC false) s.Commits),.list false 2 (List.map (zD false) s.Files)])))),(22,.pl (.one (.ba [.list false 2 (List.map (zD false) s.Files)])))],[]⟩) [1,2,3,4,5,6,7,8,9,10,11] [.q 1 23 (.pl (.one (.v (.list false 2 (List.map (zD false) s.Files))))) [],.q 2 24 (.pl (.one (.v (.sc (.int .i64 (s.Files.length:Int)))))) [1],.q 3 25 (.pl (.one (.v (.sc (.bool (decide ((s.Files.length:Int)≤12))))))) [2],.q 4 26 (.pl (.one (.v (.sc (.bool (decide ((s.Files.length:Int)≤12))))))) [3],.q 5 27 (.tup []) [4],.q 6 28 (.tup []) [4,5],.q 7 29 (.tup []) [4],.q 8 30 (.tup []) [4,7],.q 9 31 (.tup []) [4,6,8],.q 10 32 (.pl (.one (.v (.sc (.bool false))))) [4,9],.q 11 2 (.pl (.one (.v (.sc (.bool false))))) [1,2,3,4,5,6,7,8,9,10]] [(1,23),(2,24),(3,25),(4,26),(5,27),(6,28),(7,29),(8,30),(9,31),(10,32),(11,2)] [(1,true,[],[]),(2,true,[1],[]),(3,true,[2],[]),(4,true,[3],[]),(5,true,[4],[]),(6,true,[4,5],[]),(7,true,[4],[]),(8,true,[4,7],[]),(9,true,[4,6,8],[]),(10,true,[4,9],[]),(11,true,[1,2,3,4,5,6,7,8,9,10],[])] ⟨?_,?_,?_,?_,?_,?_,?_,?_,?_,?_,?_,trivial⟩ ⟨rfl,shd [2] [] 2 rfl⟩
     ·refine qB 0 ⟨33,2,2,[(1,.pl (.one (.v (.box false [.list false 3 (List.map (zC false) s.Commits),.list false 2 (List.map (zD false) s.Files)])))),(22,.pl (.one (.ba [.list false 2 (List.map (zD false) s.Files)])))],[]⟩ ?_
      refine ops H' ?_
      refine zG ⟨rfl,shd [23,1,22] [] 2 rfl⟩
     ·refine qB 1 ⟨33,2,2,[(23,.pl (.one (.v (.list false 2 (List.map (zD false) s.Files))))),(1,.pl (.one (.v (.box false [.list false 3 (List.map (zC false) s.Commits),.list false 2 (List.map (zD false) s.Files)])))),(22,.pl (.one (.ba [.list false 2 (List.map (zD false) s.Files)])))],[]⟩ ?_
      refine ops H' ?_
      refine zG ⟨rfl,shd [24,1,22] [] 2 rfl⟩
     ·refine qB 2 ⟨33,2,2,[(24,.pl (.one (.v (.sc (.int .i64 (s.Files.length:Int)))))),(1,.pl (.one (.v (.box false [.list false 3 (List.map (zC false) s.Commits),.list false 2 (List.map (zD false) s.Files)])))),(22,.pl (.one (.ba [.list false 2 (List.map (zD false) s.Files)])))],[]⟩ ?_
      refine ops H' ?_
      refine zG ⟨rfl,shd [25,1,22] [] 2 rfl⟩
     ·refine qB 3 ⟨33,2,2,[(25,.pl (.one (.v (.sc (.bool (decide ((s.Files.length:Int)≤12))))))),(1,.pl (.one (.v (.box false [.list false 3 (List.map (zC false) s.Commits),.list false 2 (List.map (zD false) s.Files)])))),(22,.pl (.one (.ba [.list false 2 (List.map (zD false) s.Files)])))],[]⟩ ?_
      refine ops H' ?_
      refine zG ⟨rfl,shd [26,1,22] [] 2 rfl⟩
     ·refine qB 4 ⟨33,2,2,[(26,.pl (.one (.v (.sc (.bool (decide ((s.Files.length:Int)≤12))))))),(1,.pl (.one (.v (.box false [.list false 3 (List.map (zC false) s.Commits),.list false 2 (List.map (zD false) s.Files)])))),(22,.pl (.one (.ba [.list false 2 (List.map (zD false) s.Files)])))],[]⟩ ?_
      refine opsOff hc4_7_0 ?_
      refine zG ⟨rfl,shd [27,1,22] [] 2 rfl⟩
     ·refine qB 5 ⟨33,2,2,[(26,.pl (.one (.v (.sc (.bool (decide ((s.Files.length:Int)≤12))))))),(27,.tup []),(1,.pl (.one (.v (.box false [.list false 3 (List.map (zC false) s.Commits),.list false 2 (List.map (zD false) s.Files)])))),(22,.pl (.one (.ba [.list false 2 (List.map (zD false) s.Files)])))],[]⟩ ?_
      refine opsOff hc4_7_0 ?_
      refine zG ⟨rfl,shd [28,1,22] [] 2 rfl⟩
     ·refine qB 6 ⟨33,2,2,[(26,.pl (.one (.v (.sc (.bool (decide ((s.Files.length:Int)≤12))))))),(1,.pl (.one (.v (.box false [.list false 3 (List.map (zC false) s.Commits),.list false 2 (List.map (zD false) s.Files)])))),(22,.pl (.one (.ba [.list false 2 (List.map (zD false) s.Files)])))],[]⟩ ?_
      refine opsOff hc4_7_0 ?_
      refine zG ⟨rfl,shd [29,1,22] [] 2 rfl⟩
     ·refine qB 7 ⟨33,2,2,[(26,.pl (.one (.v (.sc (.bool (decide ((s.Files.length:Int)≤12))))))),(29,.tup []),(1,.pl (.one (.v (.box false [.list false 3 (List.map (zC false) s.Commits),.list false 2 (List.map (zD false) s.Files)])))),(22,.pl (.one (.ba [.list false 2 (List.map (zD false) s.Files)])))],[]⟩ ?_
      refine opsOff hc4_7_0 ?_
      refine zG ⟨rfl,shd [30,1,22] [] 2 rfl⟩
     ·refine qB 8 ⟨33,2,2,[(26,.pl (.one (.v (.sc (.bool (decide ((s.Files.length:Int)≤12))))))),(28,.tup []),(30,.tup []),(1,.pl (.one (.v (.box false [.list false 3 (List.map (zC false) s.Commits),.list false 2 (List.map (zD false) s.Files)])))),(22,.pl (.one (.ba [.list false 2 (List.map (zD false) s.Files)])))],[]⟩ ?_
      refine opsOff hc4_7_0 ?_
      refine zG ⟨rfl,shd [31,1,22] [] 2 rfl⟩
     ·refine qB 9 ⟨33,2,2,[(26,.pl (.one (.v (.sc (.bool (decide ((s.Files.length:Int)≤12))))))),(31,.tup []),(1,.pl (.one (.v (.box false [.list false 3 (List.map (zC false) s.Commits),.list false 2 (List.map (zD false) s.Files)])))),(22,.pl (.one (.ba [.list false 2 (List.map (zD false) s.Files)])))],[]⟩ ?_
      refine opsPick H' hc4_7_0 ?_
      refine zG ⟨rfl,shd [32,1,22] [] 2 rfl⟩
     ·refine qB 10 ⟨33,2,2,[(23,.pl (.one (.v (.list false 2 (List.map (zD false) s.Files))))),(24,.pl (.one (.v (.sc (.int .i64 (s.Files.length:Int)))))),(25,.pl (.one (.v (.sc (.bool (decide ((s.Files.length:Int)≤12))))))),(26,.pl (.one (.v (.sc (.bool (decide ((s.Files.length:Int)≤12))))))),(27,.tup []),(28,.tup []),(29,.tup []),(30,.tup []),(31,.tup []),(32,.pl (.one (.v (.sc (.bool false))))),(1,.pl (.one (.v (.box false [.list false 3 (List.map (zC false) s.Commits),.list false 2 (List.map (zD false) s.Files)])))),(22,.pl (.one (.ba [.list false 2 (List.map (zD false) s.Files)])))],[]⟩ ?_
      refine ops H' ?_
      refine zG ⟨rfl,shd [2,1,22] [] 2 rfl⟩
    refine fpure H' 0 [0] [(1,23),(2,24),(3,25),(4,26),(5,27),(6,28),(7,29),(8,30),(9,31),(10,32),(11,2)] ?_
    exact qN [1,22] [] 2 d3'
  ·rintro e' rfl
   refine contN ?_
   refine zN ?_
   obtain rfl:=zso h0'
   exact zO H' rfl rfl
theorem W_slices_Clone_impl_Name_impl_Name (s:List T_impl_Name) (r':List T_impl_Name) (h0':jL s=some r'):Fn X 219 [.one (.list false 3 (List.map (zJ true) s))] [.one (.list true 3 (List.map (zJ true) r'))] []:=by
 have H':=And.intro t41 (And.intro t45 (zZ))
 unfold jL at h0'
 refine Fn.start (fn:=f219) (N:=8) (res:=[.tmp 2]) rfl rfl rfl rfl rfl (by simp) ?_
 refine zU H' ?_
 refine zB ?_
 refine zA ?_
 refine opsV_nilA H' 3 ?_
 refine zE ?_
 refine zB ?_
 refine zB ?_
 refine zA ?_
 refine ops H' ?_
 refine opsV_nilEq H' (fun b' hb'=>?_)
 refine zE ?_
 refine zH (fun hc'=>?_) (fun hc'=>?_)
 ·have hs':s=[]:=by simpa using hb' hc'
  subst hs'
  obtain rfl:r'=[]:=by simpa [appn] using h0'.symm
  refine zB ?_
  refine zA ?_
  refine opsV_nilA H' 3 ?_
  refine zE ?_
  refine zN ?_
  exact zO H' rfl rfl
 ·refine zM ?_
  refine zB ?_
  refine zA ?_
  have H':=And.intro (appz_f (zJ true) h0') H'
  refine ops H' ?_
  refine zE ?_
  refine zN ?_
  exact zO H' rfl rfl
theorem W_impl_NamesAt (s:T_impl_Store) (c:Int) (r':(List T_impl_Name)×Int) (h0':impl_NamesAt s c=some r'):Fn X 151 [.agg [.list false 3 (List.map (zC false) s.Commits),.list false 2 (List.map (zD false) s.Files)],.one (.sc (.int .i64 c))] [.one (.list true 3 (List.map (zJ true) r'.1)),.one (.sc (.int .i64 r'.2))] []:=by
 have H':=And.intro t24 (And.intro t27 (And.intro t41 (And.intro t43 (And.intro qT (And.intro qL (And.intro qI (And.intro zZ (And.intro qV (qK)))))))))
 unfold impl_NamesAt at h0'
 refine Fn.start (fn:=f151) (N:=24) (res:=[.tmp 4,.tmp 5]) rfl rfl rfl rfl rfl (by simp) ?_
 refine zU H' ?_
 refine zB ?_
 refine zA ?_
 refine opsV_1 H' ?_
 refine opsV_nilA H' 3 ?_
 refine ops H' ?_
 refine zE ?_
 refine zB ?_
 refine zI ?_
 refine zB ?_
 refine zA ?_
 refine ops H' ?_
 obtain ⟨x8,hy',h0'⟩:=zbi h0'
 refine zR H' (fun _=>[]) (W_impl_StoreOk _ _ hy') ?_
 refine ops H' ?_
 refine zE ?_
 refine zH (fun hc'=>?_) (fun hc'=>?_)
 ·replace h0':=(ifT hc').symm.trans h0'
  refine zB ?_
  refine zA ?_
  refine opsV_nilA H' 3 ?_
  refine ops H' ?_
  refine zE ?_
  refine zN ?_
  obtain rfl:=zso h0'
  exact zO H' rfl rfl
 ·replace h0':=(ifF hc').symm.trans h0'
  refine zB ?_
  refine zA ?_
  refine ops H' ?_
  obtain ⟨x15,hy',h0'⟩:=zbi h0'
  refine zR H' (fun _=>[]) (W_impl_isPlace _ _ _ hy') ?_
  refine ops H' ?_
  refine zE ?_
  refine zH (fun hc'=>?_) (fun hc'=>?_)
  ·replace h0':=(ifT hc').symm.trans h0'
   refine zB ?_
   refine zA ?_
   refine opsV_nilA H' 3 ?_
   refine ops H' ?_
   refine zE ?_
   refine zN ?_
   obtain rfl:=zso h0'
   exact zO H' rfl rfl
  ·replace h0':=(ifF hc').symm.trans h0'
   refine zM ?_
   refine zB ?_
   refine zA ?_
   obtain ⟨x,hv',h0'⟩:=zbi h0'
   have H':=And.intro (zP hv') H'
   refine ops H' ?_
   obtain ⟨x23,hy',h0'⟩:=zbi h0'
   refine zR H' (fun _=>[]) (W_slices_Clone_impl_Name_impl_Name _ _ hy') ?_
   refine ops H' ?_
   refine zE ?_
   refine zN ?_
   obtain rfl:=zso h0'
   exact zO H' rfl rfl
theorem W_impl_pathAt_c1 (n:T_impl_Name) (c:ByteArray) (r':Bool) (h0':impl_pathAt_c1 n c=some r'):Fn X 221 [.agg [.sc (.string n.Path),.sc (.int .i64 n.Id),.sc (.int .i64 n.Version)],.one (.box false [.sc (.string c)])] [.one (.sc (.bool r'))] []:=by
 have H':=And.intro t9 (t45)
 unfold impl_pathAt_c1 at h0'
 refine Fn.start (fn:=f221) (N:=8) (res:=[.tmp 3]) rfl rfl rfl rfl rfl (by simp) ?_
 refine zU H' ?_
 refine zB ?_
 refine zA ?_
 refine ops H' ?_
 refine zE ?_
 refine zB ?_
 refine zA ?_
 refine ops H' ?_
 refine zE ?_
 refine zN ?_
 obtain rfl:=zso h0'
 exact zO H' rfl rfl
theorem W_impl_pathAt (list_:List T_impl_Name) (path:ByteArray) (r':Int) (h0':impl_pathAt list_ path=some r'):Fn X 152 [.one (.list false 3 (List.map (zJ true) list_)),.one (.sc (.string path))] [.one (.sc (.int .i64 r'))] []:=by
 have H':=zZ
 unfold impl_pathAt at h0'
 refine Fn.start (fn:=f152) (N:=8) (res:=[.tmp 4]) rfl rfl rfl rfl rfl (by simp) ?_
 refine zU H' ?_
 refine zB ?_
 refine zA ?_
 refine ops H' ?_
 refine zE ?_
 refine zB ?_
 refine zA ?_
 refine ops H' ?_
 refine opsV_frz H' 2 ?_
 refine opsV_mkF H' ?_
 obtain ⟨x7,hy',h0'⟩:=zbi h0'
 refine zR H' (fun _=>[]) (W_slices_IndexFunc_impl_Name_impl_Name__1 _ (fun z0'=>impl_pathAt_c1 z0' path) _ _ (fun z0' r' h'=>W_impl_pathAt_c1 z0' _ r' h') _ hy') ?_
 refine ops H' ?_
 refine zE ?_
 refine zN ?_
 obtain rfl:=zso h0'
 exact zO H' rfl rfl
theorem W_impl_nameAt (s:T_impl_Store) (c:Int) (path:ByteArray) (r':T_impl_Name×Int) (h0':impl_nameAt s c path=some r'):Fn X 56 [.agg [.list false 3 (List.map (zC false) s.Commits),.list false 2 (List.map (zD false) s.Files)],.one (.sc (.int .i64 c)),.one (.sc (.string path))] [.agg [.sc (.string r'.1.Path),.sc (.int .i64 r'.1.Id),.sc (.int .i64 r'.1.Version)],.one (.sc (.int .i64 r'.2))] []:=by
 have H':=And.intro t3 (And.intro t9 (And.intro t27 (And.intro t41 (And.intro t45 (And.intro qT (And.intro qL (And.intro qI (And.intro zZ (And.intro qV (qK))))))))))
 unfold impl_nameAt at h0'
 refine Fn.start (fn:=f56) (N:=31) (res:=[.cell 6 45,.tmp 7]) rfl rfl rfl rfl rfl (by simp) ?_
 refine zU H' ?_
 refine zB ?_
 refine zA ?_
 refine ops H' ?_
 refine zE ?_
 refine zB ?_
 refine zA ?_
 refine ops H' ?_
 obtain ⟨x14,hy',h0'⟩:=zbi h0'
 refine zR H' (fun _=>[]) (W_impl_NamesAt _ _ _ hy') ?_
 refine ops H' ?_
 refine zE ?_
 refine zB ?_
 refine zB ?_
 refine zA ?_
 refine ops H' ?_
 refine zE ?_
 refine zH (fun hc'=>?_) (fun hc'=>?_)
 ·replace h0':=(ifT hc').symm.trans h0'
  refine zB ?_
  refine zA ?_
  refine ops H' ?_
  refine zE ?_
  refine zN ?_
  obtain rfl:=zso h0'
  exact outC H' rfl rfl
 ·replace h0':=(ifF hc').symm.trans h0'
  refine zM ?_
  refine zB ?_
  refine zA ?_
  refine ops H' ?_
  obtain ⟨x23,hy',h0'⟩:=zbi h0'
  refine zR H' (fun _=>[]) (W_impl_pathAt _ _ _ hy') ?_
  refine ops H' ?_
  refine zE ?_
  refine zB ?_
  refine zB ?_
  refine zA ?_
  refine ops H' ?_
  refine zE ?_
  refine zH (fun hc'=>?_) (fun hc'=>?_)
  ·replace h0':=(ifT hc').symm.trans h0'
   refine zB ?_
   refine zA ?_
   refine ops H' ?_
   refine zE ?_
   refine zN ?_
   obtain rfl:=zso h0'
   exact outC H' rfl rfl
  ·replace h0':=(ifF hc').symm.trans h0'
   refine zM ?_
   refine zB ?_
   refine zA ?_
   obtain ⟨x,hv',h0'⟩:=zbi h0'
   have H':=And.intro (zP hv') H'
   refine ops H' ?_
   refine zE ?_
   refine zN ?_
   obtain rfl:=zso h0'
   exact outC H' rfl rfl
theorem W_impl_set_list (s:Int) (r':(List Int)) (h0':impl_set_list s=some r'):Fn X 89 [.one (.sc (.int .u64 s))] [.one (.list true 1 (List.map (rK .i64) r'))] []:=by
 have H':=And.intro t3 (And.intro t40 (qK))
 unfold impl_set_list at h0'
 refine Fn.start (fn:=f89) (N:=17) (res:=[.tmp 2]) rfl rfl rfl rfl rfl (by simp) ?_
 refine zU H' ?_
 refine zB ?_
 refine zA ?_
 refine ops H' ?_
 refine zE ?_
 refine zB ?_
 refine zA ?_
 refine ops H' ?_
 refine zE ?_
 refine zV (fun e'=>∃ out_,impl_set_list_j1 out_=some r'∧e'=⟨17,1,2,[(3,.pl (.one (.ref 1 [])))],[(1,.list true 1 (List.map (rK .i64) out_))]⟩) ?_ ?_
 ·refine zB ?_
  refine zA ?_
  refine ops H' ?_
  refine zE ?_
  obtain ⟨p,hl',h0'⟩:=zbi h0'
  refine zI ?_
  refine zS (fun s' e'=>∃ x5 out__1,s'=(x5,out__1)∧e'=⟨17,1,2,[(0,.pl (.one (.v (.sc (.int .u64 s))))),(3,.pl (.one (.ref 1 []))),(5,.pl (.one (.v (.sc (.int .i64 x5)))))],[(1,.list true 1 (List.map (rK .i64) out__1))]⟩) hl' (shd [0,3,5] [(2,1)] 2 ⟨_,_,rfl,rfl⟩) ?_
  rintro s' y1' e' h1' ⟨x5,out__1,rfl,rfl⟩
  replace h1':impl_set_list_l1 s x5 out__1=some y1':=h1'
  unfold impl_set_list_l1 at h1'
  refine zB ?_
  refine zA ?_
  refine ops H' ?_
  refine zE ?_
  refine zB ?_
  refine zH (fun hc'=>?_) (fun hc'=>?_)
  ·replace h1':=(ifT hc').symm.trans h1'
   refine zM ?_
   refine zB ?_
   refine zI ?_
   refine zB ?_
   refine zA ?_
   refine ops H' ?_
   refine zE ?_
   refine zB ?_
   refine zA ?_
   refine ops H' ?_
   obtain ⟨x10,hy',h1'⟩:=zbi h1'
   refine zR H' (fun _=>[]) (W_impl_set_has _ _ _ hy') ?_
   refine zE ?_
   refine zH (fun hc'=>?_) (fun hc'=>?_)
   ·replace h1':=(ifT hc').symm.trans h1'
    refine zA ?_
    obtain ⟨l,hv',h1'⟩:=zbi h1'
    have H':=And.intro (app1_f hv') H'
    refine ops H' ?_
    refine zE ?_
    refine zA ?_
    refine ops H' ?_
    refine zE ?_
    obtain rfl:=zso h1'
    exact shd [0,3,5] [(1,1)] 2 ⟨_,rfl,_,_,rfl,rfl⟩
   ·replace h1':=(ifF hc').symm.trans h1'
    refine zM ?_
    refine zA ?_
    refine ops H' ?_
    refine zE ?_
    obtain rfl:=zso h1'
    exact shd [0,3,5] [(1,1)] 2 ⟨_,rfl,_,_,rfl,rfl⟩
  ·replace h1':=(ifF hc').symm.trans h1'
   refine qJ ?_
   obtain rfl:=zso h1'
   refine ⟨_,rfl,fun hr'=>?_⟩
   subst hr'
   exact shd [3] [(1,1)] 2 ⟨_,h0',rfl⟩
 ·rintro e' ⟨out_,h0',rfl⟩
  unfold impl_set_list_j1 at h0'
  refine zB ?_
  refine zA ?_
  refine ops H' ?_
  refine zE ?_
  refine zN ?_
  obtain rfl:=zso h0'
  exact zO H' rfl rfl
theorem W_slices_Reverse_int_int (s:List Int) (r':(List Int)) (h0':slices_Reverse_int_int s=some r'):Fn X 154 [.one (.list true 1 (List.map (rK .i64) s))] [] [(0,.list true 1 (List.map (rK .i64) r'))]:=by
 have H':=And.intro t3 (And.intro t40 (qK))
 unfold slices_Reverse_int_int at h0'
 refine Fn.start (fn:=f154) (N:=28) (res:=[]) rfl rfl rfl rfl rfl (by simp) ?_
 refine zU H' ?_
 refine zB ?_
 refine zA ?_
 refine ops H' ?_
 refine zE ?_
 obtain ⟨p,hl',h0'⟩:=zbi h0'
 refine zI ?_
 refine zS (fun s' e'=>∃ i j s_1,s'=(i,j,s_1)∧e'=⟨28,1,1,[(0,.pl (.one (.ref 0 []))),(2,.pl (.one (.v (.sc (.int .i64 i))))),(3,.pl (.one (.v (.sc (.int .i64 j)))))],[(0,.list true 1 (List.map (rK .i64) s_1))]⟩) hl' (shd [0,2,3] [(0,0)] 1 ⟨_,_,_,rfl,rfl⟩) ?_
 rintro s' y1' e' h1' ⟨i,j,s_1,rfl,rfl⟩
 replace h1':jV i j s_1=some y1':=h1'
 unfold jV at h1'
 refine zB ?_
 refine zB ?_
 refine zA ?_
 refine ops H' ?_
 refine zE ?_
 refine zH (fun hc'=>?_) (fun hc'=>?_)
 ·replace h1':=(ifT hc').symm.trans h1'
  refine zM ?_
  refine zB ?_
  refine zI ?_
  obtain ⟨x,hv',h1'⟩:=zbi h1'
  have H':=And.intro (zP hv') H'
  obtain ⟨x_1,hv',h1'⟩:=zbi h1'
  have H':=And.intro (zP hv') H'
  obtain ⟨x_2,hv',h1'⟩:=zbi h1'
  have H':=And.intro (zP hv') H'
  refine wpV_J (fun e'=>e'=⟨28,1,1,[(0,.pl (.one (.ref 0 []))),(2,.pl (.one (.v (.sc (.int .i64 i))))),(3,.pl (.one (.v (.sc (.int .i64 j)))))],[(0,.list true 1 (List.map (rK .i64) ((s_1.set i.toNat x).set j.toNat x_1)))]⟩) ?_ ?_
  ·refine regAnyF [(7,21,.pl (.one (.v (.sc (.int .i64 x))))),(11,25,.pl (.one (.v (.sc (.int .i64 x_1)))))] ?_
   refine (?_:anyF X ?o2 _ _ ?P2 _)
   have d4':anyF X ?o2 [0,1,2,3,4,5,6,7,8,9,10,11,12,13,14,15] [] ?P2 ⟨28,1,1,[(0,.pl (.one (.ref 0 []))),(2,.pl (.one (.v (.sc (.int .i64 i))))),(3,.pl (.one (.v (.sc (.int .i64 j)))))],[(0,.list true 1 (List.map (rK .i64) ((s_1.set i.toNat x).set j.toNat x_1)))]⟩:=by
    refine fend (e2:=⟨28,1,1,[(0,.pl (.one (.ref 0 []))),(2,.pl (.one (.v (.sc (.int .i64 i))))),(3,.pl (.one (.v (.sc (.int .i64 j)))))],[(0,.list true 1 (List.map (rK .i64) ((s_1.set i.toNat x).set j.toNat x_1)))]⟩) [] [] [] [] trivial ⟨rfl,shd [0,2,3] [(0,0)] 1 rfl⟩
   have d5':anyF X ?o2 [0,1,2,3,4,5,6,7,8,9,10,11,12,13,14] [] ?P2 ⟨28,1,1,[(0,.pl (.one (.ref 0 []))),(2,.pl (.one (.v (.sc (.int .i64 i))))),(3,.pl (.one (.v (.sc (.int .i64 j))))),(25,.pl (.one (.v (.sc (.int .i64 x_1))))),(27,.pl (.one (.addr 0 [] 1 j.toNat 0)))],[(0,.list true 1 (List.map (rK .i64) (s_1.set i.toNat x)))]⟩:=by
    refine fnode [] [.m 15 [] [0,1,2,3,4,5,6,7,8,9,10,11,12,13,14,15] []] [] [(15,false,[],[0,1,2,3,4,5,6,7,8,9,10,11,12,13,14,15])] ⟨?_,trivial⟩
    ·refine obMx ⟨28,1,1,[(0,.pl (.one (.ref 0 []))),(2,.pl (.one (.v (.sc (.int .i64 i))))),(3,.pl (.one (.v (.sc (.int .i64 j))))),(25,.pl (.one (.v (.sc (.int .i64 x_1))))),(27,.pl (.one (.addr 0 [] 1 j.toNat 0)))],[(0,.list true 1 (List.map (rK .i64) (s_1.set i.toNat x)))]⟩ ?_
     refine ops H' ?_
     refine zG ⟨rfl,.inl ⟨rfl,?_⟩⟩
     exact qN [0,2,3] [(0,0)] 1 d4'
   have d6':anyF X ?o2 [0,1,2,3,4,5,6,7,8,9,10,11,12,13] [] ?P2 ⟨28,1,1,[(0,.pl (.one (.ref 0 []))),(2,.pl (.one (.v (.sc (.int .i64 i))))),(3,.pl (.one (.v (.sc (.int .i64 j))))),(16,.pl (.one (.ref 0 []))),(17,.pl (.one (.v (.sc (.int .i64 j))))),(25,.pl (.one (.v (.sc (.int .i64 x_1)))))],[(0,.list true 1 (List.map (rK .i64) (s_1.set i.toNat x)))]⟩:=by
    refine fnode [] [.m 14 [] [0,1,2,3,4,5,6,7,8,9,10,11,12,13,14] []] [] [(14,false,[],[0,1,2,3,4,5,6,7,8,9,10,11,12,13,14])] ⟨?_,trivial⟩
    ·refine obMx ⟨28,1,1,[(0,.pl (.one (.ref 0 []))),(2,.pl (.one (.v (.sc (.int .i64 i))))),(3,.pl (.one (.v (.sc (.int .i64 j))))),(16,.pl (.one (.ref 0 []))),(17,.pl (.one (.v (.sc (.int .i64 j))))),(25,.pl (.one (.v (.sc (.int .i64 x_1)))))],[(0,.list true 1 (List.map (rK .i64) (s_1.set i.toNat x)))]⟩ ?_
     refine ops H' ?_
     refine zG ⟨rfl,.inl ⟨rfl,?_⟩⟩
     exact qN [0,2,3,25,27] [(0,0)] 1 d5'
   have d7':anyF X ?o2 [0,1,2,3,4,5,6,7,8,9,10,11,12] [] ?P2 ⟨28,1,1,[(0,.pl (.one (.ref 0 []))),(2,.pl (.one (.v (.sc (.int .i64 i))))),(3,.pl (.one (.v (.sc (.int .i64 j))))),(16,.pl (.one (.ref 0 []))),(17,.pl (.one (.v (.sc (.int .i64 j))))),(21,.pl (.one (.v (.sc (.int .i64 x))))),(25,.pl (.one (.v (.sc (.int .i64 x_1))))),(26,.pl (.one (.addr 0 [] 1 i.toNat 0)))],[(0,.list true 1 (List.map (rK .i64) s_1))]⟩:=by
    refine fnode [] [.m 13 [] [0,1,2,3,4,5,6,7,8,9,10,11,12,13] []] [] [(13,false,[],[0,1,2,3,4,5,6,7,8,9,10,11,12,13])] ⟨?_,trivial⟩
    ·refine obMx ⟨28,1,1,[(0,.pl (.one (.ref 0 []))),(2,.pl (.one (.v (.sc (.int .i64 i))))),(3,.pl (.one (.v (.sc (.int .i64 j))))),(16,.pl (.one (.ref 0 []))),(17,.pl (.one (.v (.sc (.int .i64 j))))),(21,.pl (.one (.v (.sc (.int .i64 x))))),(25,.pl (.one (.v (.sc (.int .i64 x_1))))),(26,.pl (.one (.addr 0 [] 1 i.toNat 0)))],[(0,.list true 1 (List.map (rK .i64) s_1))]⟩ ?_
     refine ops H' ?_
     refine zG ⟨rfl,.inl ⟨rfl,?_⟩⟩
     exact qN [0,2,3,16,17,25] [(0,0)] 1 d6'
   have d8':anyF X ?o2 [0,1,2,3,4,5,6,8,9,10] [(7,21,.pl (.one (.v (.sc (.int .i64 x))))),(11,25,.pl (.one (.v (.sc (.int .i64 x_1)))))] ?P2 ⟨28,1,1,[(0,.pl (.one (.ref 0 []))),(2,.pl (.one (.v (.sc (.int .i64 i))))),(3,.pl (.one (.v (.sc (.int .i64 j))))),(14,.pl (.one (.ref 0 []))),(15,.pl (.one (.v (.sc (.int .i64 i))))),(16,.pl (.one (.ref 0 []))),(17,.pl (.one (.v (.sc (.int .i64 j))))),(20,.pl (.one (.addr 0 [] 1 j.toNat 0))),(24,.pl (.one (.addr 0 [] 1 i.toNat 0)))],[(0,.list true 1 (List.map (rK .i64) s_1))]⟩:=by
    refine fnode [7,11] [.q 7 21 (.pl (.one (.v (.sc (.int .i64 x))))) [],.q 11 25 (.pl (.one (.v (.sc (.int .i64 x_1))))) [],.m 12 [7,11] [0,1,2,3,4,5,6,7,8,9,10,11,12] []] [(7,21),(11,25)] [(7,true,[],[]),(11,true,[],[]),(12,false,[7,11],[0,1,2,3,4,5,6,7,8,9,10,11,12])] ⟨?_,?_,?_,trivial⟩
    ·refine qB 0 ⟨28,1,1,[(0,.pl (.one (.ref 0 []))),(2,.pl (.one (.v (.sc (.int .i64 i))))),(3,.pl (.one (.v (.sc (.int .i64 j))))),(14,.pl (.one (.ref 0 []))),(15,.pl (.one (.v (.sc (.int .i64 i))))),(16,.pl (.one (.ref 0 []))),(17,.pl (.one (.v (.sc (.int .i64 j))))),(20,.pl (.one (.addr 0 [] 1 j.toNat 0))),(24,.pl (.one (.addr 0 [] 1 i.toNat 0)))],[(0,.list true 1 (List.map (rK .i64) s_1))]⟩ ?_
     refine ops H' ?_
     refine zG ⟨rfl,shd [21,0,2,3,14,15,16,17,20,24] [(0,0)] 1 rfl⟩
    ·refine qB 1 ⟨28,1,1,[(0,.pl (.one (.ref 0 []))),(2,.pl (.one (.v (.sc (.int .i64 i))))),(3,.pl (.one (.v (.sc (.int .i64 j))))),(14,.pl (.one (.ref 0 []))),(15,.pl (.one (.v (.sc (.int .i64 i))))),(16,.pl (.one (.ref 0 []))),(17,.pl (.one (.v (.sc (.int .i64 j))))),(20,.pl (.one (.addr 0 [] 1 j.toNat 0))),(24,.pl (.one (.addr 0 [] 1 i.toNat 0)))],[(0,.list true 1 (List.map (rK .i64) s_1))]⟩ ?_
     refine ops H' ?_
     refine zG ⟨rfl,shd [25,0,2,3,14,15,16,17,20,24] [(0,0)] 1 rfl⟩
    ·refine obMx ⟨28,1,1,[(21,.pl (.one (.v (.sc (.int .i64 x))))),(25,.pl (.one (.v (.sc (.int .i64 x_1))))),(0,.pl (.one (.ref 0 []))),(2,.pl (.one (.v (.sc (.int .i64 i))))),(3,.pl (.one (.v (.sc (.int .i64 j))))),(14,.pl (.one (.ref 0 []))),(15,.pl (.one (.v (.sc (.int .i64 i))))),(16,.pl (.one (.ref 0 []))),(17,.pl (.one (.v (.sc (.int .i64 j))))),(20,.pl (.one (.addr 0 [] 1 j.toNat 0))),(24,.pl (.one (.addr 0 [] 1 i.toNat 0)))],[(0,.list true 1 (List.map (rK .i64) s_1))]⟩ ?_
     refine ops H' ?_
     refine zG ⟨rfl,.inl ⟨rfl,?_⟩⟩
     exact qN [0,2,3,16,17,21,25,26] [(0,0)] 1 d7'
   refine fpure H' 0 [0] [(7,21),(11,25)] ?_
   refine fpure H' 1 [0,1] [(7,21),(11,25)] ?_
   refine fpure H' 2 [0,1,2] [(7,21),(11,25)] ?_
   refine fpure H' 3 [0,1,2,3] [(7,21),(11,25)] ?_
   refine fpure H' 4 [0,1,2,3,4] [(7,21),(11,25)] ?_
   refine fpure H' 5 [0,1,2,3,4,5] [(7,21),(11,25)] ?_
   refine fpure H' 6 [0,1,2,3,4,5,6] [(7,21),(11,25)] ?_
   refine fpure H' 8 [0,1,2,3,4,5,6,8] [(7,21),(11,25)] ?_
   refine fpure H' 9 [0,1,2,3,4,5,6,8,9] [(7,21),(11,25)] ?_
   refine fpure H' 10 [0,1,2,3,4,5,6,8,9,10] [(7,21),(11,25)] ?_
   exact qN [0,2,3,14,15,16,17,20,24] [(0,0)] 1 d8'
  ·rintro e' rfl
   refine contN ?_
   refine zA ?_
   refine ops H' ?_
   refine zE ?_
   obtain rfl:=zso h1'
   exact shd [0,2,3] [(0,0)] 1 ⟨_,rfl,_,_,_,rfl,rfl⟩
 ·replace h1':=(ifF hc').symm.trans h1'
  refine qJ ?_
  obtain rfl:=zso h1'
  refine ⟨_,rfl,fun hr'=>?_⟩
  subst hr'
  obtain rfl:=zso h0'
  exact outN H' rfl rfl
theorem W_impl_LogOf (list_:List T_impl_Commit) (versions:List Int) (c:Int) (r':(List Int)) (h0':impl_LogOf list_ versions c=some r'):Fn X 57 [.one (.list false 3 (List.map (zC false) list_)),.one (.list false 1 (List.map (rK .i64) versions)),.one (.sc (.int .i64 c))] [.one (.list true 1 (List.map (rK .i64) r'))] []:=by
 have H':=And.intro t24 (And.intro t136 (And.intro t137 (And.intro qT (And.intro qI (And.intro zZ (And.intro qK (R_u64)))))))
 unfold impl_LogOf at h0'
 refine Fn.start (fn:=f57) (N:=29) (res:=[.tmp 6]) rfl rfl rfl rfl rfl (by simp) ?_
 refine zU H' ?_
 refine zB ?_
 refine zA ?_
 refine ops H' ?_
 refine zE ?_
 refine zB ?_
 refine zB ?_
 refine zA ?_
 refine ops H' ?_
 obtain ⟨x11,hy',h0'⟩:=zbi h0'
 refine zR H' (fun _=>[]) (W_impl_isPlace _ _ _ hy') ?_
 refine ops H' ?_
 obtain ⟨b,gh0',h0'⟩:=zbi h0'
 refine qC 5 (fun e'=>e'=⟨29,3,3,[(0,.pl (.one (.v (.list false 3 (List.map (zC false) list_))))),(2,.pl (.one (.v (.sc (.int .i64 c))))),(18,.pl (.one (.v (.sc (.bool b)))))],[]⟩) ?_ ?_
 ·simp only [List.take_succ_cons,List.take_zero]
  refine qE (fun hc'=>?_) (fun hc'=>?_)
  ·replace gh0':=(ifF hc').symm.trans gh0'
   refine ops H' ?_
   obtain ⟨x16,hy',gh0'⟩:=zbi gh0'
   refine zR H' (fun _=>[]) (W_impl_CommitsOk _ _ _ hy') ?_
   refine ops H' ?_
   obtain rfl:=zso gh0'
   refine zG ?_
   exact ⟨rfl,shd [0,2,18] [] 3 rfl⟩
  ·replace gh0':=(ifT hc').symm.trans gh0'
   refine ops H' ?_
   obtain rfl:=zso gh0'
   refine zG ?_
   exact ⟨rfl,shd [0,2,18] [] 3 rfl⟩
 ·rintro e' rfl
  simp only [List.drop_succ_cons,List.drop_zero]
  refine zE ?_
  refine zH (fun hc'=>?_) (fun hc'=>?_)
  ·replace h0':=(ifT hc').symm.trans h0'
   refine zB ?_
   refine zA ?_
   refine ops H' ?_
   refine zE ?_
   refine zN ?_
   obtain rfl:=zso h0'
   exact zO H' rfl rfl
  ·replace h0':=(ifF hc').symm.trans h0'
   refine zM ?_
   refine zB ?_
   refine zA ?_
   refine ops H' ?_
   obtain ⟨x20,hy',h0'⟩:=zbi h0'
   refine callGD H' (fun _=>[]) (W_impl_graphOf _ _ hy') ?_
   obtain ⟨x21,hy',h0'⟩:=zbi h0'
   refine zR H' (fun _=>[]) (W_impl_closures _ _ hy') ?_
   obtain ⟨x,hv',h0'⟩:=zbi h0'
   have H':=And.intro (zP hv') H'
   refine ops H' ?_
   obtain ⟨x25,hy',h0'⟩:=zbi h0'
   refine zR H' (fun _=>[]) (W_impl_set_list _ _ hy') ?_
   refine ops H' ?_
   refine zE ?_
   refine zB ?_
   refine zA ?_
   refine ops H' ?_
   obtain ⟨x27,hy',h0'⟩:=zbi h0'
   refine zR H' (fun _=>[0]) (W_slices_Reverse_int_int _ _ hy') ?_
   refine zE ?_
   refine zB ?_
   refine zA ?_
   refine ops H' ?_
   refine zE ?_
   refine zN ?_
   obtain rfl:=zso h0'
   exact zO H' rfl rfl
theorem W_impl_unlike (a:T_impl_Commit) (b:T_impl_Commit) (id:Int) (r':Bool) (h0':impl_unlike a b id=some r'):Fn X 157 [.agg [.list false 1 (List.map (rK .i64) a.Parents),.sc (.string a.Note),.list false 3 (List.map (zJ true) a.Names)],.agg [.list false 1 (List.map (rK .i64) b.Parents),.sc (.string b.Note),.list false 3 (List.map (zJ true) b.Names)],.one (.sc (.int .i64 id))] [.one (.sc (.bool r'))] []:=by
 have H':=And.intro t3 (And.intro t9 (And.intro t41 (And.intro t43 (And.intro t45 (And.intro zZ (qK))))))
 unfold impl_unlike at h0'
 refine Fn.start (fn:=f157) (N:=40) (res:=[.tmp 6]) rfl rfl rfl rfl rfl (by simp) ?_
 refine zU H' ?_
 refine zB ?_
 refine zA ?_
 refine ops H' ?_
 refine zE ?_
 refine zB ?_
 refine regQ ?_
 refine ops H' ?_
 obtain ⟨x12,hy',h0'⟩:=zbi h0'
 refine callGQ H' (W_impl_idAt _ _ _ hy') ?_
 refine ops H' ?_
 obtain ⟨x16,hy',h0'⟩:=zbi h0'
 refine callGQ H' (W_impl_idAt _ _ _ hy') ?_
 refine ops H' ?_
 refine quN ?_
 refine zB ?_
 refine zB ?_
 refine zA ?_
 refine ops H' ?_
 obtain ⟨b_1,gh0',h0'⟩:=zbi h0'
 refine qC 3 (fun e'=>e'=⟨40,7,9,[(3,.pl (.one (.ref 7 []))),(4,.pl (.one (.ref 8 []))),(7,.pl (.one (.v (.sc (.int .i64 x12))))),(8,.pl (.one (.v (.sc (.int .i64 x16))))),(22,.pl (.one (.v (.sc (.bool b_1)))))],[(7,.box true [.list false 1 (List.map (rK .i64) a.Parents),.sc (.string a.Note),.list false 3 (List.map (zJ true) a.Names)]),(8,.box true [.list false 1 (List.map (rK .i64) b.Parents),.sc (.string b.Note),.list false 3 (List.map (zJ true) b.Names)])]⟩) ?_ ?_
 ·simp only [List.take_succ_cons,List.take_zero]
  refine qE (fun hc'=>?_) (fun hc'=>?_)
  ·replace gh0':=(ifF hc').symm.trans gh0'
   refine ops H' ?_
   obtain rfl:=zso gh0'
   refine zG ?_
   exact ⟨rfl,shd [3,4,7,8,22] [(7,7),(8,8)] 9 rfl⟩
  ·replace gh0':=(ifT hc').symm.trans gh0'
   refine ops H' ?_
   obtain rfl:=zso gh0'
   refine zG ?_
   exact ⟨rfl,shd [3,4,7,8,22] [(7,7),(8,8)] 9 rfl⟩
 ·rintro e' rfl
  simp only [List.drop_succ_cons,List.drop_zero]
  refine zE ?_
  refine zH (fun hc'=>?_) (fun hc'=>?_)
  ·replace h0':=(ifT hc').symm.trans h0'
   refine zB ?_
   refine zA ?_
   refine ops H' ?_
   obtain ⟨b_2,gh0',h0'⟩:=zbi h0'
   refine qC 3 (fun e'=>e'=⟨40,7,7,[(28,.pl (.one (.v (.sc (.bool b_2)))))],[]⟩) ?_ ?_
   ·simp only [List.take_succ_cons,List.take_zero]
    refine qE (fun hc'=>?_) (fun hc'=>?_)
    ·replace gh0':=(ifF hc').symm.trans gh0'
     refine ops H' ?_
     obtain rfl:=zso gh0'
     refine zG ?_
     exact ⟨rfl,shd [28] [] 7 rfl⟩
    ·replace gh0':=(ifT hc').symm.trans gh0'
     refine ops H' ?_
     obtain rfl:=zso gh0'
     refine zG ?_
     exact ⟨rfl,shd [28] [] 7 rfl⟩
   ·rintro e' rfl
    simp only [List.drop_succ_cons,List.drop_zero]
    refine ops H' ?_
    refine zE ?_
    refine zN ?_
    obtain rfl:=zso h0'
    exact zO H' rfl rfl
  ·replace h0':=(ifF hc').symm.trans h0'
   refine zM ?_
   refine zB ?_
   refine regQ ?_
   obtain ⟨x,hv',h0'⟩:=zbi h0'
   have H':=And.intro (zP hv') H'
   obtain ⟨x_1,hv',h0'⟩:=zbi h0'
   have H':=And.intro (zP hv') H'
   refine ops H' ?_
   refine quV_cmp H' (by kernel_rfl) ?_
   refine ops H' ?_
   refine quN ?_
   refine zN ?_
   obtain rfl:=zso h0'
   exact zO H' rfl rfl
end Go.TV.KFnExactFileLog
