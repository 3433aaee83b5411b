/- Walks. -/
import Derived.Test.YtmoglghkjfjalaaGreatKFnExactFileLogE
import Derived.Test.YtmoglghkjfjalaaGreatKFnExactFileLogW0
import Derived.Test.YtmoglghkjfjalaaGreatKFnExactFileLogW1
set_option linter.unusedVariables false
set_option linter.unusedSimpArgs false
set_option maxHeartbeats 8000000
set_option maxRecDepth 100000
namespace Go.TV.KFnExactFileLog
attribute [local irreducible] anyV wpV opsV Does thenV blockV RetL quV seqV
open Go.Proofs.Tryz Go.TV.F
theorem W_spec_NoteOk (note:ByteArray) (r':Bool) (h0':spec_NoteOk note=some r'):Fn X 209 [.one (.sc (.string note))] [.one (.sc (.bool r'))] []:=by
 have H':=And.intro t3 (And.intro t5 (t9))
 unfold spec_NoteOk at h0'
 refine Fn.start (fn:=f209) (N:=28) (res:=[.tmp 2]) rfl rfl rfl rfl rfl (by simp) ?_
 refine zU H' ?_
 refine zB ?_
 refine zA ?_
 refine ops H' ?_
 refine zE ?_
 refine zV (fun e'=>spec_NoteOk_j1 note=some r'∧e'=⟨28,1,1,[(0,.pl (.one (.v (.sc (.string note)))))],[]⟩) ?_ ?_
 ·refine zB ?_
  refine zA ?_
  refine ops H' ?_
  refine zE ?_
  obtain ⟨p,hl',h0'⟩:=zbi h0'
  refine zI ?_
  refine zS (fun i e'=>e'=⟨28,1,1,[(0,.pl (.one (.v (.sc (.string note))))),(3,.pl (.one (.v (.sc (.int .i64 i)))))],[]⟩) hl' (shd [0,3] [] 1 rfl) ?_
  rintro i y1' e' h1' rfl
  replace h1':spec_NoteOk_l1 note i=some y1':=h1'
  unfold spec_NoteOk_l1 at h1'
  refine zB ?_
  refine zB ?_
  refine zA ?_
  refine ops H' ?_
  obtain ⟨b,gh1',h1'⟩:=zbi h1'
  refine qC 4 (fun e'=>e'=⟨28,1,1,[(0,.pl (.one (.v (.sc (.string note))))),(3,.pl (.one (.v (.sc (.int .i64 i))))),(12,.pl (.one (.v (.sc (.bool b)))))],[]⟩) ?_ ?_
  ·simp only [List.take_succ_cons,List.take_zero]
   refine qE (fun hc'=>?_) (fun hc'=>?_)
   ·replace gh1':=(ifT hc').symm.trans gh1'
    refine ops H' ?_
    obtain rfl:=zso gh1'
    refine zG ?_
    exact ⟨rfl,shd [0,3,12] [] 1 rfl⟩
   ·replace gh1':=(ifF hc').symm.trans gh1'
    refine ops H' ?_
    obtain rfl:=zso gh1'
    refine zG ?_
    exact ⟨rfl,shd [0,3,12] [] 1 rfl⟩
  ·rintro e' rfl
   simp only [List.drop_succ_cons,List.drop_zero]
   refine zE ?_
   refine zH (fun hc'=>?_) (fun hc'=>?_)
   ·replace h1':=(ifT hc').symm.trans h1'
    refine zM ?_
    refine zB ?_
    refine zI ?_
    refine zB ?_
    refine zA ?_
    obtain ⟨x17,hv',h1'⟩:=zbi h1'
    have H':=And.intro (sidx_f hv') H'
    refine ops H' ?_
    obtain ⟨b_1,gh1',h1'⟩:=zbi h1'
    refine qC 5 (fun e'=>e'=⟨28,1,1,[(0,.pl (.one (.v (.sc (.string note))))),(3,.pl (.one (.v (.sc (.int .i64 i))))),(24,.pl (.one (.v (.sc (.bool b_1)))))],[]⟩) ?_ ?_
    ·simp only [List.take_succ_cons,List.take_zero]
     refine qE (fun hc'=>?_) (fun hc'=>?_)
     ·replace gh1':=(ifF hc').symm.trans gh1'
      refine ops H' ?_
      obtain rfl:=zso gh1'
      refine zG ?_
      exact ⟨rfl,shd [0,3,24] [] 1 rfl⟩
     ·replace gh1':=(ifT hc').symm.trans gh1'
      refine ops H' ?_
      obtain rfl:=zso gh1'
      refine zG ?_
      exact ⟨rfl,shd [0,3,24] [] 1 rfl⟩
    ·rintro e' rfl
     simp only [List.drop_succ_cons,List.drop_zero]
     refine zE ?_
     refine zH (fun hc'=>?_) (fun hc'=>?_)
     ·replace h1':=(ifT hc').symm.trans h1'
      refine zB ?_
      refine zA ?_
      refine ops H' ?_
      refine zE ?_
      refine zN ?_
      obtain rfl:=zso h1'
      refine ⟨_,rfl,fun hr'=>?_⟩
      subst hr'
      obtain rfl:=zso h0'
      exact zO H' rfl rfl
     ·replace h1':=(ifF hc').symm.trans h1'
      refine zM ?_
      refine zA ?_
      refine ops H' ?_
      refine zE ?_
      obtain rfl:=zso h1'
      exact shd [0,3] [] 1 ⟨_,rfl,rfl⟩
   ·replace h1':=(ifF hc').symm.trans h1'
    refine qJ ?_
    obtain rfl:=zso h1'
    refine ⟨_,rfl,fun hr'=>?_⟩
    subst hr'
    exact shd [0] [] 1 ⟨h0',rfl⟩
 ·rintro e' ⟨h0',rfl⟩
  unfold spec_NoteOk_j1 at h0'
  refine zB ?_
  refine zA ?_
  refine ops H' ?_
  refine zE ?_
  refine zN ?_
  obtain rfl:=zso h0'
  exact zO H' rfl rfl
theorem W_spec_PathOk (path:ByteArray) (r':Bool) (h0':spec_PathOk path=some r'):Fn X 248 [.one (.sc (.string path))] [.one (.sc (.bool r'))] []:=by
 have H':=And.intro t3 (And.intro t5 (t9))
 unfold spec_PathOk at h0'
 refine Fn.start (fn:=f248) (N:=73) (res:=[.tmp 2]) rfl rfl rfl rfl rfl (by simp) ?_
 refine zU H' ?_
 refine zB ?_
 refine zA ?_
 refine ops H' ?_
 refine zE ?_
 refine zB ?_
 refine zA ?_
 refine ops H' ?_
 refine zE ?_
 refine zB ?_
 refine zB ?_
 refine zA ?_
 refine ops H' ?_
 obtain ⟨x9,hy',h0'⟩:=zbi h0'
 refine zR H' (fun _=>[]) (W_spec_l01In _ _ _ _ hy') ?_
 refine ops H' ?_
 obtain ⟨b,gh0',h0'⟩:=zbi h0'
 refine qC 4 (fun e'=>e'=⟨73,1,1,[(0,.pl (.one (.v (.sc (.string path))))),(3,.pl (.one (.v (.sc (.int .i64 (path.size:Int)))))),(15,.pl (.one (.v (.sc (.bool b)))))],[]⟩) ?_ ?_
 ·simp only [List.take_succ_cons,List.take_zero]
  refine qE (fun hc'=>?_) (fun hc'=>?_)
  ·replace gh0':=(ifF hc').symm.trans gh0'
   obtain ⟨x13,hv',gh0'⟩:=zbi gh0'
   have H':=And.intro (sidx_f hv') H'
   refine ops H' ?_
   obtain rfl:=zso gh0'
   refine zG ?_
   exact ⟨rfl,shd [0,3,15] [] 1 rfl⟩
  ·replace gh0':=(ifT hc').symm.trans gh0'
   refine ops H' ?_
   obtain rfl:=zso gh0'
   refine zG ?_
   exact ⟨rfl,shd [0,3,15] [] 1 rfl⟩
 ·rintro e' rfl
  simp only [List.drop_succ_cons,List.drop_zero]
  refine ops H' ?_
  obtain ⟨b_1,gh0',h0'⟩:=zbi h0'
  refine qC 6 (fun e'=>e'=⟨73,1,1,[(0,.pl (.one (.v (.sc (.string path))))),(3,.pl (.one (.v (.sc (.int .i64 (path.size:Int)))))),(22,.pl (.one (.v (.sc (.bool b_1)))))],[]⟩) ?_ ?_
  ·simp only [List.take_succ_cons,List.take_zero]
   refine qE (fun hc'=>?_) (fun hc'=>?_)
   ·replace gh0':=(ifF hc').symm.trans gh0'
    obtain ⟨x20,hv',gh0'⟩:=zbi gh0'
    have H':=And.intro (sidx_f hv') H'
    refine ops H' ?_
    obtain rfl:=zso gh0'
    refine zG ?_
    exact ⟨rfl,shd [0,3,22] [] 1 rfl⟩
   ·replace gh0':=(ifT hc').symm.trans gh0'
    refine ops H' ?_
    obtain rfl:=zso gh0'
    refine zG ?_
    exact ⟨rfl,shd [0,3,22] [] 1 rfl⟩
  ·rintro e' rfl
   simp only [List.drop_succ_cons,List.drop_zero]
   refine zE ?_
   refine zH (fun hc'=>?_) (fun hc'=>?_)
   ·replace h0':=(ifT hc').symm.trans h0'
    refine zB ?_
    refine zA ?_
    refine ops H' ?_
    refine zE ?_
    refine zN ?_
    obtain rfl:=zso h0'
    exact zO H' rfl rfl
   ·replace h0':=(ifF hc').symm.trans h0'
    refine zM ?_
    refine zV (fun e'=>spec_PathOk_j1=some r'∧e'=⟨73,1,1,[],[]⟩) ?_ ?_
    ·refine zB ?_
     refine zA ?_
     refine ops H' ?_
     refine zE ?_
     obtain ⟨p,hl',h0'⟩:=zbi h0'
     refine zI ?_
     refine zS (fun i e'=>e'=⟨73,1,1,[(0,.pl (.one (.v (.sc (.string path))))),(3,.pl (.one (.v (.sc (.int .i64 (path.size:Int)))))),(4,.pl (.one (.v (.sc (.int .i64 i)))))],[]⟩) hl' (shd [0,3,4] [] 1 rfl) ?_
     rintro i y1' e' h1' rfl
     replace h1':spec_PathOk_l1 path i=some y1':=h1'
     unfold spec_PathOk_l1 at h1'
     refine zB ?_
     refine zB ?_
     refine zA ?_
     refine ops H' ?_
     refine zE ?_
     refine zH (fun hc'=>?_) (fun hc'=>?_)
     ·replace h1':=(ifT hc').symm.trans h1'
      refine zM ?_
      refine zB ?_
      refine zI ?_
      refine zB ?_
      refine zA ?_
      obtain ⟨x30,hv',h1'⟩:=zbi h1'
      have H':=And.intro (sidx_f hv') H'
      refine ops H' ?_
      refine zE ?_
      refine zB ?_
      refine zA ?_
      refine ops H' ?_
      obtain ⟨b_2,gh1',h1'⟩:=zbi h1'
      refine qC 3 (fun e'=>e'=⟨73,1,1,[(0,.pl (.one (.v (.sc (.string path))))),(3,.pl (.one (.v (.sc (.int .i64 (path.size:Int)))))),(4,.pl (.one (.v (.sc (.int .i64 i))))),(5,.pl (.one (.v (.sc (.int .u8 x30))))),(36,.pl (.one (.v (.sc (.bool b_2)))))],[]⟩) ?_ ?_
      ·simp only [List.take_succ_cons,List.take_zero]
       refine qE (fun hc'=>?_) (fun hc'=>?_)
       ·replace gh1':=(ifT hc').symm.trans gh1'
        refine ops H' ?_
        obtain rfl:=zso gh1'
        refine zG ?_
        exact ⟨rfl,shd [0,3,4,5,36] [] 1 rfl⟩
       ·replace gh1':=(ifF hc').symm.trans gh1'
        refine ops H' ?_
        obtain rfl:=zso gh1'
        refine zG ?_
        exact ⟨rfl,shd [0,3,4,5,36] [] 1 rfl⟩
      ·rintro e' rfl
       simp only [List.drop_succ_cons,List.drop_zero]
       refine ops H' ?_
       obtain ⟨b_3,gh1',h1'⟩:=zbi h1'
       refine qC 7 (fun e'=>e'=⟨73,1,1,[(0,.pl (.one (.v (.sc (.string path))))),(3,.pl (.one (.v (.sc (.int .i64 (path.size:Int)))))),(4,.pl (.one (.v (.sc (.int .i64 i))))),(5,.pl (.one (.v (.sc (.int .u8 x30))))),(44,.pl (.one (.v (.sc (.bool b_3)))))],[]⟩) ?_ ?_
       ·simp only [List.take_succ_cons,List.take_zero]
        refine qE (fun hc'=>?_) (fun hc'=>?_)
        ·replace gh1':=(ifF hc').symm.trans gh1'
         refine ops H' ?_
         obtain ⟨b_4,ggh1',gh1'⟩:=zbi gh1'
         refine qC 3 (fun e'=>e'=⟨73,1,1,[(0,.pl (.one (.v (.sc (.string path))))),(3,.pl (.one (.v (.sc (.int .i64 (path.size:Int)))))),(4,.pl (.one (.v (.sc (.int .i64 i))))),(5,.pl (.one (.v (.sc (.int .u8 x30))))),(37,.pl (.one (.v (.sc (.bool false))))),(38,.pl (.one (.v (.sc (.int .u8 x30))))),(39,.pl (.one (.v (.sc (.bool (decide (x30≥48))))))),(43,.pl (.one (.v (.sc (.bool b_4)))))],[]⟩) ?_ ?_
         ·simp only [List.take_succ_cons,List.take_zero]
          refine qE (fun hc'=>?_) (fun hc'=>?_)
          ·replace ggh1':=(ifT hc').symm.trans ggh1'
           refine ops H' ?_
           obtain rfl:=zso ggh1'
           refine zG ?_
           exact ⟨rfl,shd [0,3,4,5,37,38,39,43] [] 1 rfl⟩
          ·replace ggh1':=(ifF hc').symm.trans ggh1'
           refine ops H' ?_
           obtain rfl:=zso ggh1'
           refine zG ?_
           exact ⟨rfl,shd [0,3,4,5,37,38,39,43] [] 1 rfl⟩
         ·rintro e' rfl
          simp only [List.drop_succ_cons,List.drop_zero]
          refine ops H' ?_
          obtain rfl:=zso gh1'
          refine zG ?_
          exact ⟨rfl,shd [0,3,4,5,44] [] 1 rfl⟩
        ·replace gh1':=(ifT hc').symm.trans gh1'
         refine ops H' ?_
         obtain rfl:=zso gh1'
         refine zG ?_
         exact ⟨rfl,shd [0,3,4,5,44] [] 1 rfl⟩
       ·rintro e' rfl
        simp only [List.drop_succ_cons,List.drop_zero]
        refine ops H' ?_
        obtain ⟨b_5,gh1',h1'⟩:=zbi h1'
        refine qC 3 (fun e'=>e'=⟨73,1,1,[(0,.pl (.one (.v (.sc (.string path))))),(3,.pl (.one (.v (.sc (.int .i64 (path.size:Int)))))),(4,.pl (.one (.v (.sc (.int .i64 i))))),(5,.pl (.one (.v (.sc (.int .u8 x30))))),(48,.pl (.one (.v (.sc (.bool b_5)))))],[]⟩) ?_ ?_
        ·simp only [List.take_succ_cons,List.take_zero]
         refine qE (fun hc'=>?_) (fun hc'=>?_)
         ·replace gh1':=(ifF hc').symm.trans gh1'
          refine ops H' ?_
          obtain rfl:=zso gh1'
          refine zG ?_
          exact ⟨rfl,shd [0,3,4,5,48] [] 1 rfl⟩
         ·replace gh1':=(ifT hc').symm.trans gh1'
          refine ops H' ?_
          obtain rfl:=zso gh1'
          refine zG ?_
          exact ⟨rfl,shd [0,3,4,5,48] [] 1 rfl⟩
        ·rintro e' rfl
         simp only [List.drop_succ_cons,List.drop_zero]
         refine ops H' ?_
         obtain ⟨b_6,gh1',h1'⟩:=zbi h1'
         refine qC 3 (fun e'=>e'=⟨73,1,1,[(0,.pl (.one (.v (.sc (.string path))))),(3,.pl (.one (.v (.sc (.int .i64 (path.size:Int)))))),(4,.pl (.one (.v (.sc (.int .i64 i))))),(5,.pl (.one (.v (.sc (.int .u8 x30))))),(52,.pl (.one (.v (.sc (.bool b_6)))))],[]⟩) ?_ ?_
         ·simp only [List.take_succ_cons,List.take_zero]
          refine qE (fun hc'=>?_) (fun hc'=>?_)
          ·replace gh1':=(ifF hc').symm.trans gh1'
           refine ops H' ?_
           obtain rfl:=zso gh1'
           refine zG ?_
           exact ⟨rfl,shd [0,3,4,5,52] [] 1 rfl⟩
          ·replace gh1':=(ifT hc').symm.trans gh1'
           refine ops H' ?_
           obtain rfl:=zso gh1'
           refine zG ?_
           exact ⟨rfl,shd [0,3,4,5,52] [] 1 rfl⟩
         ·rintro e' rfl
          simp only [List.drop_succ_cons,List.drop_zero]
          refine ops H' ?_
          obtain ⟨b_7,gh1',h1'⟩:=zbi h1'
          refine qC 3 (fun e'=>e'=⟨73,1,1,[(0,.pl (.one (.v (.sc (.string path))))),(3,.pl (.one (.v (.sc (.int .i64 (path.size:Int)))))),(4,.pl (.one (.v (.sc (.int .i64 i))))),(5,.pl (.one (.v (.sc (.int .u8 x30))))),(56,.pl (.one (.v (.sc (.bool b_7)))))],[]⟩) ?_ ?_
          ·simp only [List.take_succ_cons,List.take_zero]
           refine qE (fun hc'=>?_) (fun hc'=>?_)
           ·replace gh1':=(ifF hc').symm.trans gh1'
            refine ops H' ?_
            obtain rfl:=zso gh1'
            refine zG ?_
            exact ⟨rfl,shd [0,3,4,5,56] [] 1 rfl⟩
           ·replace gh1':=(ifT hc').symm.trans gh1'
            refine ops H' ?_
            obtain rfl:=zso gh1'
            refine zG ?_
            exact ⟨rfl,shd [0,3,4,5,56] [] 1 rfl⟩
          ·rintro e' rfl
           simp only [List.drop_succ_cons,List.drop_zero]
           refine ops H' ?_
           obtain ⟨b_8,gh1',h1'⟩:=zbi h1'
           refine qC 14 (fun e'=>e'=⟨73,1,1,[(0,.pl (.one (.v (.sc (.string path))))),(3,.pl (.one (.v (.sc (.int .i64 (path.size:Int)))))),(4,.pl (.one (.v (.sc (.int .i64 i))))),(72,.pl (.one (.v (.sc (.bool b_8)))))],[]⟩) ?_ ?_
           ·simp only [List.take_succ_cons,List.take_zero]
            refine qE (fun hc'=>?_) (fun hc'=>?_)
            ·replace gh1':=(ifF hc').symm.trans gh1'
             refine ops H' ?_
             obtain ⟨b_9,ggh1',gh1'⟩:=zbi gh1'
             refine qC 3 (fun e'=>e'=⟨73,1,1,[(0,.pl (.one (.v (.sc (.string path))))),(3,.pl (.one (.v (.sc (.int .i64 (path.size:Int)))))),(4,.pl (.one (.v (.sc (.int .i64 i))))),(58,.pl (.one (.v (.sc (.bool false))))),(59,.pl (.one (.v (.sc (.int .i64 i))))),(60,.pl (.one (.v (.sc (.bool (decide (i > 0))))))),(64,.pl (.one (.v (.sc (.bool b_9)))))],[]⟩) ?_ ?_
             ·simp only [List.take_succ_cons,List.take_zero]
              refine qE (fun hc'=>?_) (fun hc'=>?_)
              ·replace ggh1':=(ifT hc').symm.trans ggh1'
               refine ops H' ?_
               obtain rfl:=zso ggh1'
               refine zG ?_
               exact ⟨rfl,shd [0,3,4,58,59,60,64] [] 1 rfl⟩
              ·replace ggh1':=(ifF hc').symm.trans ggh1'
               refine ops H' ?_
               obtain rfl:=zso ggh1'
               refine zG ?_
               exact ⟨rfl,shd [0,3,4,58,59,60,64] [] 1 rfl⟩
             ·rintro e' rfl
              simp only [List.drop_succ_cons,List.drop_zero]
              refine ops H' ?_
              obtain ⟨b_10,ggh1',gh1'⟩:=zbi gh1'
              refine qC 6 (fun e'=>e'=⟨73,1,1,[(0,.pl (.one (.v (.sc (.string path))))),(3,.pl (.one (.v (.sc (.int .i64 (path.size:Int)))))),(4,.pl (.one (.v (.sc (.int .i64 i))))),(58,.pl (.one (.v (.sc (.bool false))))),(59,.pl (.one (.v (.sc (.int .i64 i))))),(60,.pl (.one (.v (.sc (.bool (decide (i > 0))))))),(64,.pl (.one (.v (.sc (.bool b_9))))),(71,.pl (.one (.v (.sc (.bool b_10)))))],[]⟩) ?_ ?_
              ·simp only [List.take_succ_cons,List.take_zero]
               refine qE (fun hc'=>?_) (fun hc'=>?_)
               ·replace ggh1':=(ifT hc').symm.trans ggh1'
                obtain ⟨x69,hv',ggh1'⟩:=zbi ggh1'
                have H':=And.intro (sidx_f hv') H'
                refine ops H' ?_
                obtain rfl:=zso ggh1'
                refine zG ?_
                exact ⟨rfl,shd [0,3,4,58,59,60,64,71] [] 1 rfl⟩
               ·replace ggh1':=(ifF hc').symm.trans ggh1'
                refine ops H' ?_
                obtain rfl:=zso ggh1'
                refine zG ?_
                exact ⟨rfl,shd [0,3,4,58,59,60,64,71] [] 1 rfl⟩
              ·rintro e' rfl
               simp only [List.drop_succ_cons,List.drop_zero]
               refine ops H' ?_
               obtain rfl:=zso gh1'
               refine zG ?_
               exact ⟨rfl,shd [0,3,4,72] [] 1 rfl⟩
            ·replace gh1':=(ifT hc').symm.trans gh1'
             refine ops H' ?_
             obtain rfl:=zso gh1'
             refine zG ?_
             exact ⟨rfl,shd [0,3,4,72] [] 1 rfl⟩
           ·rintro e' rfl
            simp only [List.drop_succ_cons,List.drop_zero]
            refine zE ?_
            refine zH (fun hc'=>?_) (fun hc'=>?_)
            ·replace h1':=(ifT hc').symm.trans h1'
             refine zB ?_
             refine zA ?_
             refine ops H' ?_
             refine zE ?_
             refine zN ?_
             obtain rfl:=zso h1'
             refine ⟨_,rfl,fun hr'=>?_⟩
             subst hr'
             obtain rfl:=zso h0'
             exact zO H' rfl rfl
            ·replace h1':=(ifF hc').symm.trans h1'
             refine zM ?_
             refine zA ?_
             refine ops H' ?_
             refine zE ?_
             obtain rfl:=zso h1'
             exact shd [0,3,4] [] 1 ⟨_,rfl,rfl⟩
     ·replace h1':=(ifF hc').symm.trans h1'
      refine qJ ?_
      obtain rfl:=zso h1'
      refine ⟨_,rfl,fun hr'=>?_⟩
      subst hr'
      exact shd [] [] 1 ⟨h0',rfl⟩
    ·rintro e' ⟨h0',rfl⟩
     unfold spec_PathOk_j1 at h0'
     refine zB ?_
     refine zA ?_
     refine ops H' ?_
     refine zE ?_
     refine zN ?_
     obtain rfl:=zso h0'
     exact zO H' rfl rfl
theorem W_spec_NamesOk (list_:List T_impl_Name) (r':Bool) (h0':spec_NamesOk list_=some r'):Fn X 229 [.one (.list false 3 (List.map (zJ true) list_))] [.one (.sc (.bool r'))] []:=by
 have H':=And.intro t3 (And.intro t9 (And.intro t41 (And.intro t45 (zZ))))
 unfold spec_NamesOk at h0'
 refine Fn.start (fn:=f229) (N:=63) (res:=[.tmp 2]) rfl rfl rfl rfl rfl (by simp) ?_
 refine zU H' ?_
 refine zB ?_
 refine zA ?_
 refine ops H' ?_
 refine zE ?_
 refine zB ?_
 refine zB ?_
 refine zA ?_
 refine ops H' ?_
 refine zE ?_
 refine zH (fun hc'=>?_) (fun hc'=>?_)
 ·replace h0':=(ifT hc').symm.trans h0'
  refine zB ?_
  refine zA ?_
  refine ops H' ?_
  refine zE ?_
  refine zN ?_
  obtain rfl:=zso h0'
  exact zO H' rfl rfl
 ·replace h0':=(ifF hc').symm.trans h0'
  refine zM ?_
  refine zV (fun e'=>spec_NamesOk_j1=some r'∧e'=⟨63,1,1,[],[]⟩) ?_ ?_
  ·refine zB ?_
   refine zA ?_
   refine ops H' ?_
   refine zE ?_
   obtain ⟨p,hl',h0'⟩:=zbi h0'
   refine zI ?_
   refine zS (fun i e'=>e'=⟨63,1,1,[(0,.pl (.one (.v (.list false 3 (List.map (zJ true) list_))))),(3,.pl (.one (.v (.sc (.int .i64 i)))))],[]⟩) hl' (shd [0,3] [] 1 rfl) ?_
   rintro i y1' e' h1' rfl
   replace h1':spec_NamesOk_l1 list_ i=some y1':=h1'
   unfold spec_NamesOk_l1 at h1'
   refine zB ?_
   refine zB ?_
   refine zA ?_
   refine ops H' ?_
   refine zE ?_
   refine zH (fun hc'=>?_) (fun hc'=>?_)
   ·replace h1':=(ifT hc').symm.trans h1'
    refine zM ?_
    refine zV (fun e'=>spec_NamesOk_j2 i=some y1'∧e'=⟨63,1,1,[(0,.pl (.one (.v (.list false 3 (List.map (zJ true) list_))))),(3,.pl (.one (.v (.sc (.int .i64 i)))))],[]⟩) ?_ ?_
    ·refine zI ?_
     refine zB ?_
     refine zA ?_
     obtain ⟨x,hv',h1'⟩:=zbi h1'
     have H':=And.intro (zP hv') H'
     refine ops H' ?_
     refine zE ?_
     refine zB ?_
     refine zB ?_
     refine regQ ?_
     refine ops H' ?_
     obtain ⟨x21,hy',h1'⟩:=zbi h1'
     refine callGQ H' (W_spec_PathOk _ _ hy') ?_
     refine ops H' ?_
     obtain ⟨b,gh1',h1'⟩:=zbi h1'
     refine quV_cut 14 (fun e'=>e'=⟨63,1,2,[(0,.pl (.one (.v (.list false 3 (List.map (zJ true) list_))))),(3,.pl (.one (.v (.sc (.int .i64 i))))),(4,.pl (.one (.ref 1 []))),(37,.pl (.one (.v (.sc (.bool b)))))],[(1,.box true [.sc (.string x.Path),.sc (.int .i64 x.Id),.sc (.int .i64 x.Version)])]⟩) ?_ ?_
     ·simp only [List.take_succ_cons,List.take_zero]
      refine quV_sp (fun hc'=>?_) (fun hc'=>?_)
      ·replace gh1':=(ifF hc').symm.trans gh1'
       refine ops H' ?_
       obtain ⟨b_1,ggh1',gh1'⟩:=zbi gh1'
       refine quV_cut 10 (fun e'=>e'=⟨63,1,2,[(0,.pl (.one (.v (.list false 3 (List.map (zJ true) list_))))),(3,.pl (.one (.v (.sc (.int .i64 i))))),(4,.pl (.one (.ref 1 []))),(23,.pl (.one (.v (.sc (.bool false))))),(24,.pl (.one (.v (.sc (.int .i64 i))))),(25,.pl (.one (.v (.sc (.bool (decide (i > 0))))))),(36,.pl (.one (.v (.sc (.bool b_1)))))],[(1,.box true [.sc (.string x.Path),.sc (.int .i64 x.Id),.sc (.int .i64 x.Version)])]⟩) ?_ ?_
       ·simp only [List.take_succ_cons,List.take_zero]
        refine quV_sp (fun hc'=>?_) (fun hc'=>?_)
        ·replace ggh1':=(ifT hc').symm.trans ggh1'
         obtain ⟨x_1,hv',ggh1'⟩:=zbi ggh1'
         have H':=And.intro (zP hv') H'
         refine ops H' ?_
         obtain rfl:=zso ggh1'
         refine qU ?_
         exact ⟨rfl,shd [0,3,4,23,24,25,36] [(1,1)] 2 rfl⟩
        ·replace ggh1':=(ifF hc').symm.trans ggh1'
         refine ops H' ?_
         obtain rfl:=zso ggh1'
         refine qU ?_
         exact ⟨rfl,shd [0,3,4,23,24,25,36] [(1,1)] 2 rfl⟩
       ·rintro e' rfl
        simp only [List.drop_succ_cons,List.drop_zero]
        refine ops H' ?_
        obtain rfl:=zso gh1'
        refine qU ?_
        exact ⟨rfl,shd [0,3,4,37] [(1,1)] 2 rfl⟩
      ·replace gh1':=(ifT hc').symm.trans gh1'
       refine ops H' ?_
       obtain rfl:=zso gh1'
       refine qU ?_
       exact ⟨rfl,shd [0,3,4,37] [(1,1)] 2 rfl⟩
     ·rintro e' rfl
      simp only [List.drop_succ_cons,List.drop_zero]
      refine ops H' ?_
      obtain ⟨b_2,gh1',h1'⟩:=zbi h1'
      refine quV_cut 5 (fun e'=>e'=⟨63,1,2,[(0,.pl (.one (.v (.list false 3 (List.map (zJ true) list_))))),(3,.pl (.one (.v (.sc (.int .i64 i))))),(4,.pl (.one (.ref 1 []))),(43,.pl (.one (.v (.sc (.bool b_2)))))],[(1,.box true [.sc (.string x.Path),.sc (.int .i64 x.Id),.sc (.int .i64 x.Version)])]⟩) ?_ ?_
      ·simp only [List.take_succ_cons,List.take_zero]
       refine quV_sp (fun hc'=>?_) (fun hc'=>?_)
       ·replace gh1':=(ifF hc').symm.trans gh1'
        refine ops H' ?_
        obtain ⟨x41,hy',gh1'⟩:=zbi gh1'
        refine callGQ H' (W_spec_l01In _ _ _ _ hy') ?_
        refine ops H' ?_
        obtain rfl:=zso gh1'
        refine qU ?_
        exact ⟨rfl,shd [0,3,4,43] [(1,1)] 2 rfl⟩
       ·replace gh1':=(ifT hc').symm.trans gh1'
        refine ops H' ?_
        obtain rfl:=zso gh1'
        refine qU ?_
        exact ⟨rfl,shd [0,3,4,43] [(1,1)] 2 rfl⟩
      ·rintro e' rfl
       simp only [List.drop_succ_cons,List.drop_zero]
       refine ops H' ?_
       obtain ⟨b_3,gh1',h1'⟩:=zbi h1'
       refine quV_cut 5 (fun e'=>e'=⟨63,1,2,[(0,.pl (.one (.v (.list false 3 (List.map (zJ true) list_))))),(3,.pl (.one (.v (.sc (.int .i64 i))))),(4,.pl (.one (.ref 1 []))),(49,.pl (.one (.v (.sc (.bool b_3)))))],[(1,.box true [.sc (.string x.Path),.sc (.int .i64 x.Id),.sc (.int .i64 x.Version)])]⟩) ?_ ?_
       ·simp only [List.take_succ_cons,List.take_zero]
        refine quV_sp (fun hc'=>?_) (fun hc'=>?_)
        ·replace gh1':=(ifF hc').symm.trans gh1'
         refine ops H' ?_
         obtain ⟨x47,hy',gh1'⟩:=zbi gh1'
         refine callGQ H' (W_spec_l01In _ _ _ _ hy') ?_
         refine ops H' ?_
         obtain rfl:=zso gh1'
         refine qU ?_
         exact ⟨rfl,shd [0,3,4,49] [(1,1)] 2 rfl⟩
        ·replace gh1':=(ifT hc').symm.trans gh1'
         refine ops H' ?_
         obtain rfl:=zso gh1'
         refine qU ?_
         exact ⟨rfl,shd [0,3,4,49] [(1,1)] 2 rfl⟩
       ·rintro e' rfl
        simp only [List.drop_succ_cons,List.drop_zero]
        refine quN ?_
        refine zH (fun hc'=>?_) (fun hc'=>?_)
        ·replace h1':=(ifT hc').symm.trans h1'
         refine zB ?_
         refine zA ?_
         refine ops H' ?_
         refine zE ?_
         refine zN ?_
         obtain rfl:=zso h1'
         refine ⟨_,rfl,fun hr'=>?_⟩
         subst hr'
         obtain rfl:=zso h0'
         exact zO H' rfl rfl
        ·replace h1':=(ifF hc').symm.trans h1'
         refine zM ?_
         refine zB ?_
         refine zA ?_
         refine ops H' ?_
         refine zE ?_
         obtain ⟨p_1,hl',h1'⟩:=zbi h1'
         refine zI ?_
         refine zS (fun k e'=>e'=⟨63,1,2,[(0,.pl (.one (.v (.list false 3 (List.map (zJ true) list_))))),(3,.pl (.one (.v (.sc (.int .i64 i))))),(4,.pl (.one (.ref 1 []))),(5,.pl (.one (.v (.sc (.int .i64 k)))))],[(1,.box true [.sc (.string x.Path),.sc (.int .i64 x.Id),.sc (.int .i64 x.Version)])]⟩) hl' (shd [0,3,4,5] [(1,1)] 2 rfl) ?_
         rintro k y2' e' h2' rfl
         replace h2':spec_NamesOk_l2 list_ i x k=some y2':=h2'
         unfold spec_NamesOk_l2 at h2'
         refine zB ?_
         refine zB ?_
         refine zA ?_
         refine ops H' ?_
         refine zE ?_
         refine zH (fun hc'=>?_) (fun hc'=>?_)
         ·replace h2':=(ifT hc').symm.trans h2'
          refine zM ?_
          refine zB ?_
          refine zI ?_
          refine zB ?_
          refine regQ ?_
          obtain ⟨x_2,hv',h2'⟩:=zbi h2'
          have H':=And.intro (zP hv') H'
          refine ops H' ?_
          refine quN ?_
          refine zH (fun hc'=>?_) (fun hc'=>?_)
          ·replace h2':=(ifT hc').symm.trans h2'
           refine zB ?_
           refine zA ?_
           refine ops H' ?_
           refine zE ?_
           refine zN ?_
           obtain rfl:=zso h2'
           refine ⟨_,rfl,fun hr'=>?_⟩
           subst hr'
           obtain rfl:=zso h1'
           refine ⟨_,rfl,fun hr'=>?_⟩
           subst hr'
           obtain rfl:=zso h0'
           exact zO H' rfl rfl
          ·replace h2':=(ifF hc').symm.trans h2'
           refine zM ?_
           refine zA ?_
           refine ops H' ?_
           refine zE ?_
           obtain rfl:=zso h2'
           exact shd [0,3,4,5] [(1,1)] 2 ⟨_,rfl,rfl⟩
         ·replace h2':=(ifF hc').symm.trans h2'
          refine qJ ?_
          obtain rfl:=zso h2'
          refine ⟨_,rfl,fun hr'=>?_⟩
          subst hr'
          exact shd [0,3] [] 1 ⟨h1',rfl⟩
    ·rintro e' ⟨h1',rfl⟩
     unfold spec_NamesOk_j2 at h1'
     refine zA ?_
     refine ops H' ?_
     refine zE ?_
     obtain rfl:=zso h1'
     exact shd [0,3] [] 1 ⟨_,rfl,rfl⟩
   ·replace h1':=(ifF hc').symm.trans h1'
    refine qJ ?_
    obtain rfl:=zso h1'
    refine ⟨_,rfl,fun hr'=>?_⟩
    subst hr'
    exact shd [] [] 1 ⟨h0',rfl⟩
  ·rintro e' ⟨h0',rfl⟩
   unfold spec_NamesOk_j1 at h0'
   refine zB ?_
   refine zA ?_
   refine ops H' ?_
   refine zE ?_
   refine zN ?_
   obtain rfl:=zso h0'
   exact zO H' rfl rfl
theorem W_spec_CommitsOk (list_:List T_impl_Commit) (versions:List Int) (r':Bool) (h0':spec_CommitsOk list_ versions=some r'):Fn X 162 [.one (.list false 3 (List.map (zC false) list_)),.one (.list false 1 (List.map (rK .i64) versions))] [.one (.sc (.bool r'))] []:=by
 have H':=And.intro t3 (And.intro t9 (And.intro t24 (And.intro t40 (And.intro t41 (And.intro t43 (And.intro t45 (And.intro qT (And.intro qI (And.intro zZ (qK))))))))))
 unfold spec_CommitsOk at h0'
 refine Fn.start (fn:=f162) (N:=90) (res:=[.tmp 4]) rfl rfl rfl rfl rfl (by simp) ?_
 refine zU H' ?_
 refine zB ?_
 refine zA ?_
 refine ops H' ?_
 refine zE ?_
 refine zB ?_
 refine zB ?_
 refine zA ?_
 refine ops H' ?_
 obtain ⟨b,gh0',h0'⟩:=zbi h0'
 refine qC 4 (fun e'=>e'=⟨90,2,2,[(0,.pl (.one (.v (.list false 3 (List.map (zC false) list_))))),(1,.pl (.one (.v (.list false 1 (List.map (rK .i64) versions))))),(16,.pl (.one (.v (.sc (.bool b)))))],[]⟩) ?_ ?_
 ·simp only [List.take_succ_cons,List.take_zero]
  refine qE (fun hc'=>?_) (fun hc'=>?_)
  ·replace gh0':=(ifF hc').symm.trans gh0'
   refine ops H' ?_
   obtain rfl:=zso gh0'
   refine zG ?_
   exact ⟨rfl,shd [0,1,16] [] 2 rfl⟩
  ·replace gh0':=(ifT hc').symm.trans gh0'
   refine ops H' ?_
   obtain rfl:=zso gh0'
   refine zG ?_
   exact ⟨rfl,shd [0,1,16] [] 2 rfl⟩
 ·rintro e' rfl
  simp only [List.drop_succ_cons,List.drop_zero]
  refine ops H' ?_
  obtain ⟨b_1,gh0',h0'⟩:=zbi h0'
  refine qC 5 (fun e'=>e'=⟨90,2,2,[(0,.pl (.one (.v (.list false 3 (List.map (zC false) list_))))),(1,.pl (.one (.v (.list false 1 (List.map (rK .i64) versions))))),(22,.pl (.one (.v (.sc (.bool b_1)))))],[]⟩) ?_ ?_
  ·simp only [List.take_succ_cons,List.take_zero]
   refine qE (fun hc'=>?_) (fun hc'=>?_)
   ·replace gh0':=(ifF hc').symm.trans gh0'
    refine ops H' ?_
    obtain ⟨x19,hy',gh0'⟩:=zbi gh0'
    refine callGD H' (fun _=>[]) (W_spec_l14Graph _ _ hy') ?_
    refine ops H' ?_
    obtain ⟨x20,hy',gh0'⟩:=zbi gh0'
    refine zR H' (fun _=>[]) (W_spec_GraphOk _ _ hy') ?_
    refine ops H' ?_
    obtain rfl:=zso gh0'
    refine zG ?_
    exact ⟨rfl,shd [0,1,22] [] 2 rfl⟩
   ·replace gh0':=(ifT hc').symm.trans gh0'
    refine ops H' ?_
    obtain rfl:=zso gh0'
    refine zG ?_
    exact ⟨rfl,shd [0,1,22] [] 2 rfl⟩
  ·rintro e' rfl
   simp only [List.drop_succ_cons,List.drop_zero]
   refine zE ?_
   refine zH (fun hc'=>?_) (fun hc'=>?_)
   ·replace h0':=(ifT hc').symm.trans h0'
    refine zB ?_
    refine zA ?_
    refine ops H' ?_
    refine zE ?_
    refine zN ?_
    obtain rfl:=zso h0'
    exact zO H' rfl rfl
   ·replace h0':=(ifF hc').symm.trans h0'
    refine zM ?_
    refine zV (fun e'=>spec_CommitsOk_j1 list_ versions=some r'∧e'=⟨90,2,2,[(0,.pl (.one (.v (.list false 3 (List.map (zC false) list_))))),(1,.pl (.one (.v (.list false 1 (List.map (rK .i64) versions)))))],[]⟩) ?_ ?_
    ·refine zB ?_
     refine zA ?_
     refine ops H' ?_
     refine zE ?_
     obtain ⟨p_2,hl',h0'⟩:=zbi h0'
     refine zI ?_
     refine zS (fun i_1 e'=>e'=⟨90,2,2,[(0,.pl (.one (.v (.list false 3 (List.map (zC false) list_))))),(1,.pl (.one (.v (.list false 1 (List.map (rK .i64) versions))))),(5,.pl (.one (.v (.sc (.int .i64 i_1)))))],[]⟩) hl' (shd [0,1,5] [] 2 rfl) ?_
     rintro i_1 y1' e' h1' rfl
     replace h1':spec_CommitsOk_l3 versions i_1=some y1':=h1'
     unfold spec_CommitsOk_l3 at h1'
     refine zB ?_
     refine zB ?_
     refine zA ?_
     refine ops H' ?_
     refine zE ?_
     refine zH (fun hc'=>?_) (fun hc'=>?_)
     ·replace h1':=(ifT hc').symm.trans h1'
      refine zM ?_
      refine zB ?_
      refine zI ?_
      refine zB ?_
      refine zA ?_
      obtain ⟨x_4,hv',h1'⟩:=zbi h1'
      have H':=And.intro (zP hv') H'
      refine ops H' ?_
      obtain ⟨x33,hy',h1'⟩:=zbi h1'
      refine zR H' (fun _=>[]) (W_spec_l01In _ _ _ _ hy') ?_
      refine ops H' ?_
      refine zE ?_
      refine zH (fun hc'=>?_) (fun hc'=>?_)
      ·replace h1':=(ifT hc').symm.trans h1'
       refine zB ?_
       refine zA ?_
       refine ops H' ?_
       refine zE ?_
       refine zN ?_
       obtain rfl:=zso h1'
       refine ⟨_,rfl,fun hr'=>?_⟩
       subst hr'
       obtain rfl:=zso h0'
       exact zO H' rfl rfl
      ·replace h1':=(ifF hc').symm.trans h1'
       refine zM ?_
       refine zA ?_
       refine ops H' ?_
       refine zE ?_
       obtain rfl:=zso h1'
       exact shd [0,1,5] [] 2 ⟨_,rfl,rfl⟩
     ·replace h1':=(ifF hc').symm.trans h1'
      refine qJ ?_
      obtain rfl:=zso h1'
      refine ⟨_,rfl,fun hr'=>?_⟩
      subst hr'
      exact shd [0,1] [] 2 ⟨h0',rfl⟩
    ·rintro e' ⟨h0',rfl⟩
     unfold spec_CommitsOk_j1 at h0'
     refine zV (fun e'=>spec_CommitsOk_j2=some r'∧e'=⟨90,2,2,[],[]⟩) ?_ ?_
     ·refine zB ?_
      refine zA ?_
      refine ops H' ?_
      refine zE ?_
      obtain ⟨p,hl',h0'⟩:=zbi h0'
      refine zI ?_
      refine zS (fun i e'=>e'=⟨90,2,2,[(0,.pl (.one (.v (.list false 3 (List.map (zC false) list_))))),(1,.pl (.one (.v (.list false 1 (List.map (rK .i64) versions))))),(6,.pl (.one (.v (.sc (.int .i64 i)))))],[]⟩) hl' (shd [0,1,6] [] 2 rfl) ?_
      rintro i y1' e' h1' rfl
      replace h1':spec_CommitsOk_l1 list_ versions i=some y1':=h1'
      unfold spec_CommitsOk_l1 at h1'
      refine zB ?_
      refine zB ?_
      refine zA ?_
      refine ops H' ?_
      refine zE ?_
      refine zH (fun hc'=>?_) (fun hc'=>?_)
      ·replace h1':=(ifT hc').symm.trans h1'
       refine zM ?_
       refine zV (fun e'=>spec_CommitsOk_j3 i=some y1'∧e'=⟨90,2,2,[(0,.pl (.one (.v (.list false 3 (List.map (zC false) list_))))),(1,.pl (.one (.v (.list false 1 (List.map (rK .i64) versions))))),(6,.pl (.one (.v (.sc (.int .i64 i)))))],[]⟩) ?_ ?_
       ·refine zI ?_
        refine zB ?_
        refine zB ?_
        refine zA ?_
        obtain ⟨x,hv',h1'⟩:=zbi h1'
        have H':=And.intro (zP hv') H'
        refine ops H' ?_
        obtain ⟨x46,hy',h1'⟩:=zbi h1'
        refine zR H' (fun _=>[]) (W_spec_NoteOk _ _ hy') ?_
        refine ops H' ?_
        obtain ⟨b_2,gh1',h1'⟩:=zbi h1'
        refine qC 8 (fun e'=>e'=⟨90,2,2,[(0,.pl (.one (.v (.list false 3 (List.map (zC false) list_))))),(1,.pl (.one (.v (.list false 1 (List.map (rK .i64) versions))))),(6,.pl (.one (.v (.sc (.int .i64 i))))),(56,.pl (.one (.v (.sc (.bool b_2)))))],[]⟩) ?_ ?_
        ·simp only [List.take_succ_cons,List.take_zero]
         refine qE (fun hc'=>?_) (fun hc'=>?_)
         ·replace gh1':=(ifF hc').symm.trans gh1'
          refine ops H' ?_
          obtain ⟨x54,hy',gh1'⟩:=zbi gh1'
          refine zR H' (fun _=>[]) (W_spec_NamesOk _ _ hy') ?_
          refine ops H' ?_
          obtain rfl:=zso gh1'
          refine zG ?_
          exact ⟨rfl,shd [0,1,6,56] [] 2 rfl⟩
         ·replace gh1':=(ifT hc').symm.trans gh1'
          refine ops H' ?_
          obtain rfl:=zso gh1'
          refine zG ?_
          exact ⟨rfl,shd [0,1,6,56] [] 2 rfl⟩
        ·rintro e' rfl
         simp only [List.drop_succ_cons,List.drop_zero]
         refine zE ?_
         refine zH (fun hc'=>?_) (fun hc'=>?_)
         ·replace h1':=(ifT hc').symm.trans h1'
          refine zB ?_
          refine zA ?_
          refine ops H' ?_
          refine zE ?_
          refine zN ?_
          obtain rfl:=zso h1'
          refine ⟨_,rfl,fun hr'=>?_⟩
          subst hr'
          obtain rfl:=zso h0'
          exact zO H' rfl rfl
         ·replace h1':=(ifF hc').symm.trans h1'
          refine zM ?_
          refine zB ?_
          refine zA ?_
          refine ops H' ?_
          refine zE ?_
          obtain ⟨p_1,hl',h1'⟩:=zbi h1'
          refine zI ?_
          refine zS (fun k e'=>e'=⟨90,2,2,[(0,.pl (.one (.v (.list false 3 (List.map (zC false) list_))))),(1,.pl (.one (.v (.list false 1 (List.map (rK .i64) versions))))),(6,.pl (.one (.v (.sc (.int .i64 i))))),(7,.pl (.one (.v (.sc (.int .i64 k)))))],[]⟩) hl' (shd [0,1,6,7] [] 2 rfl) ?_
          rintro k y2' e' h2' rfl
          replace h2':spec_CommitsOk_l2 list_ versions i k=some y2':=h2'
          unfold spec_CommitsOk_l2 at h2'
          refine zB ?_
          refine zB ?_
          refine zA ?_
          obtain ⟨x_1,hv',h2'⟩:=zbi h2'
          have H':=And.intro (zP hv') H'
          refine ops H' ?_
          refine zE ?_
          refine zH (fun hc'=>?_) (fun hc'=>?_)
          ·replace h2':=(ifT hc').symm.trans h2'
           refine zM ?_
           refine zB ?_
           refine zI ?_
           refine zB ?_
           refine zA ?_
           obtain ⟨x_2,hv',h2'⟩:=zbi h2'
           have H':=And.intro (zP hv') H'
           refine ops H' ?_
           refine zE ?_
           refine zB ?_
           refine regQ ?_
           refine ops H' ?_
           obtain ⟨b_3,gh2',h2'⟩:=zbi h2'
           refine quV_cut 9 (fun e'=>e'=⟨90,2,2,[(0,.pl (.one (.v (.list false 3 (List.map (zC false) list_))))),(1,.pl (.one (.v (.list false 1 (List.map (rK .i64) versions))))),(6,.pl (.one (.v (.sc (.int .i64 i))))),(7,.pl (.one (.v (.sc (.int .i64 k))))),(89,.pl (.one (.v (.sc (.bool b_3)))))],[]⟩) ?_ ?_
           ·simp only [List.take_succ_cons,List.take_zero]
            refine quV_sp (fun hc'=>?_) (fun hc'=>?_)
            ·replace gh2':=(ifF hc').symm.trans gh2'
             obtain ⟨x_3,hv',gh2'⟩:=zbi gh2'
             have H':=And.intro (zP hv') H'
             refine ops H' ?_
             obtain rfl:=zso gh2'
             refine qU ?_
             exact ⟨rfl,shd [0,1,6,7,89] [] 2 rfl⟩
            ·replace gh2':=(ifT hc').symm.trans gh2'
             refine ops H' ?_
             obtain rfl:=zso gh2'
             refine qU ?_
             exact ⟨rfl,shd [0,1,6,7,89] [] 2 rfl⟩
           ·rintro e' rfl
            simp only [List.drop_succ_cons,List.drop_zero]
            refine quN ?_
            refine zH (fun hc'=>?_) (fun hc'=>?_)
            ·replace h2':=(ifT hc').symm.trans h2'
             refine zB ?_
             refine zA ?_
             refine ops H' ?_
             refine zE ?_
             refine zN ?_
             obtain rfl:=zso h2'
             refine ⟨_,rfl,fun hr'=>?_⟩
             subst hr'
             obtain rfl:=zso h1'
             refine ⟨_,rfl,fun hr'=>?_⟩
             subst hr'
             obtain rfl:=zso h0'
             exact zO H' rfl rfl
            ·replace h2':=(ifF hc').symm.trans h2'
             refine zM ?_
             refine zA ?_
             refine ops H' ?_
             refine zE ?_
             obtain rfl:=zso h2'
             exact shd [0,1,6,7] [] 2 ⟨_,rfl,rfl⟩
          ·replace h2':=(ifF hc').symm.trans h2'
           refine qJ ?_
           obtain rfl:=zso h2'
           refine ⟨_,rfl,fun hr'=>?_⟩
           subst hr'
           exact shd [0,1,6] [] 2 ⟨h1',rfl⟩
       ·rintro e' ⟨h1',rfl⟩
        unfold spec_CommitsOk_j3 at h1'
        refine zA ?_
        refine ops H' ?_
        refine zE ?_
        obtain rfl:=zso h1'
        exact shd [0,1,6] [] 2 ⟨_,rfl,rfl⟩
      ·replace h1':=(ifF hc').symm.trans h1'
       refine qJ ?_
       obtain rfl:=zso h1'
       refine ⟨_,rfl,fun hr'=>?_⟩
       subst hr'
       exact shd [] [] 2 ⟨h0',rfl⟩
     ·rintro e' ⟨h0',rfl⟩
      unfold spec_CommitsOk_j2 at h0'
      refine zB ?_
      refine zA ?_
      refine ops H' ?_
      refine zE ?_
      refine zN ?_
      obtain rfl:=zso h0'
      exact zO H' rfl rfl
theorem W_spec_StoreOk (s:T_impl_Store) (r':Bool) (h0':spec_StoreOk s=some r'):Fn X 227 [.agg [.list false 3 (List.map (zC false) s.Commits),.list false 2 (List.map (zD false) s.Files)]] [.one (.sc (.bool r'))] []:=by
 have H':=And.intro t3 (And.intro t24 (And.intro t25 (And.intro t27 (And.intro t33 (And.intro t36 (And.intro qT (And.intro qL (And.intro qI (And.intro zZ (And.intro qV (qK)))))))))))
 unfold spec_StoreOk at h0'
 refine Fn.start (fn:=f227) (N:=37) (res:=[.tmp 2]) rfl rfl rfl rfl rfl (by simp) ?_
 refine zU H' ?_
 refine zB ?_
 refine zA ?_
 refine ops H' ?_
 refine zE ?_
 refine zB ?_
 refine zB ?_
 refine zA ?_
 refine ops H' ?_
 refine zE ?_
 refine zH (fun hc'=>?_) (fun hc'=>?_)
 ·replace h0':=(ifT hc').symm.trans h0'
  refine zB ?_
  refine zA ?_
  refine ops H' ?_
  refine zE ?_
  refine zN ?_
  obtain rfl:=zso h0'
  exact zO H' rfl rfl
 ·replace h0':=(ifF hc').symm.trans h0'
  refine zM ?_
  refine zV (fun e'=>spec_StoreOk_j1 s=some r'∧e'=⟨37,2,3,[(1,.pl (.one (.ref 2 [])))],[(2,.box true [.list false 3 (List.map (zC false) s.Commits),.list false 2 (List.map (zD false) s.Files)])]⟩) ?_ ?_
  ·refine zB ?_
   refine zA ?_
   refine ops H' ?_
   refine zE ?_
   obtain ⟨p,hl',h0'⟩:=zbi h0'
   refine zI ?_
   refine zS (fun i e'=>e'=⟨37,2,3,[(1,.pl (.one (.ref 2 []))),(3,.pl (.one (.v (.sc (.int .i64 i)))))],[(2,.box true [.list false 3 (List.map (zC false) s.Commits),.list false 2 (List.map (zD false) s.Files)])]⟩) hl' (shd [1,3] [(2,2)] 3 rfl) ?_
   rintro i y1' e' h1' rfl
   replace h1':spec_StoreOk_l1 s i=some y1':=h1'
   unfold spec_StoreOk_l1 at h1'
   refine zB ?_
   refine zB ?_
   refine zA ?_
   refine ops H' ?_
   refine zE ?_
   refine zH (fun hc'=>?_) (fun hc'=>?_)
   ·replace h1':=(ifT hc').symm.trans h1'
    refine zM ?_
    refine zB ?_
    refine zI ?_
    refine zB ?_
    refine zA ?_
    obtain ⟨x,hv',h1'⟩:=zbi h1'
    have H':=And.intro (zP hv') H'
    refine ops H' ?_
    obtain ⟨x20,hy',h1'⟩:=zbi h1'
    refine zR H' (fun _=>[]) (W_spec_WeaveOk _ _ hy') ?_
    refine ops H' ?_
    obtain ⟨b,gh1',h1'⟩:=zbi h1'
    refine qC 9 (fun e'=>e'=⟨37,2,3,[(1,.pl (.one (.ref 2 []))),(3,.pl (.one (.v (.sc (.int .i64 i))))),(31,.pl (.one (.v (.sc (.bool b)))))],[(2,.box true [.list false 3 (List.map (zC false) s.Commits),.list false 2 (List.map (zD false) s.Files)])]⟩) ?_ ?_
    ·simp only [List.take_succ_cons,List.take_zero]
     refine qE (fun hc'=>?_) (fun hc'=>?_)
     ·replace gh1':=(ifF hc').symm.trans gh1'
      refine ops H' ?_
      obtain rfl:=zso gh1'
      refine zG ?_
      exact ⟨rfl,shd [1,3,31] [(2,2)] 3 rfl⟩
     ·replace gh1':=(ifT hc').symm.trans gh1'
      refine ops H' ?_
      obtain rfl:=zso gh1'
      refine zG ?_
      exact ⟨rfl,shd [1,3,31] [(2,2)] 3 rfl⟩
    ·rintro e' rfl
     simp only [List.drop_succ_cons,List.drop_zero]
     refine zE ?_
     refine zH (fun hc'=>?_) (fun hc'=>?_)
     ·replace h1':=(ifT hc').symm.trans h1'
      refine zB ?_
      refine zA ?_
      refine ops H' ?_
      refine zE ?_
      refine zN ?_
      obtain rfl:=zso h1'
      refine ⟨_,rfl,fun hr'=>?_⟩
      subst hr'
      obtain rfl:=zso h0'
      exact zO H' rfl rfl
     ·replace h1':=(ifF hc').symm.trans h1'
      refine zM ?_
      refine zA ?_
      refine ops H' ?_
      refine zE ?_
      obtain rfl:=zso h1'
      exact shd [1,3] [(2,2)] 3 ⟨_,rfl,rfl⟩
   ·replace h1':=(ifF hc').symm.trans h1'
    refine qJ ?_
    obtain rfl:=zso h1'
    refine ⟨_,rfl,fun hr'=>?_⟩
    subst hr'
    exact shd [1] [(2,2)] 3 ⟨h0',rfl⟩
  ·rintro e' ⟨h0',rfl⟩
   unfold spec_StoreOk_j1 at h0'
   refine zB ?_
   obtain ⟨x35,hy_x35,h0'⟩:=zbi h0'
   obtain ⟨x36,hy_x36,h0'⟩:=zbi h0'
   refine wpV_J (fun e'=>e'=⟨37,2,2,[(2,.pl (.one (.v (.sc (.bool x36)))))],[]⟩) ?_ ?_
   ·refine regAnyF [(1,33,.pl (.one (.v (.list false 3 (List.map (zC false) s.Commits))))),(2,34,.pl (.agg [.v (.list false 3 (List.map (zC false) s.Commits)),.v (.list false 2 (List.map (zD false) s.Files))])),(4,36,.pl (.one (.v (.sc (.bool x36))))),(5,2,.pl (.one (.v (.sc (.bool x36)))))] ?_
    refine (?_:anyF X ?o0 _ _ ?P0 _)
    have d0':anyF X ?o0 [0,2,3] [(1,33,.pl (.one (.v (.list false 3 (List.map (zC false) s.Commits))))),(4,36,.pl (.one (.v (.sc (.bool x36))))),(5,2,.pl (.one (.v (.sc (.bool x36)))))] ?P0 ⟨37,2,4,[(32,.pl (.one (.addr 2 [] 0 0 0))),(35,.pl (.one (.ref 3 [])))],[(2,.box true [.list false 3 (List.map (zC false) s.Commits),.list false 2 (List.map (zD false) s.Files)]),(3,.list true 1 (List.map (rK .i64) x35))]⟩:=by
     refine fend (e2:=⟨37,2,4,[(33,.pl (.one (.v (.list false 3 (List.map (zC false) s.Commits))))),(36,.pl (.one (.v (.sc (.bool x36))))),(2,.pl (.one (.v (.sc (.bool x36))))),(32,.pl (.one (.addr 2 [] 0 0 0))),(35,.pl (.one (.ref 3 [])))],[(2,.box true [.list false 3 (List.map (zC false) s.Commits),.list false 2 (List.map (zD false) s.Files)]),(3,.list true 1 (List.map (rK .i64) x35))]⟩) [1,4,5] [.q 1 33 (.pl (.one (.v (.list false 3 (List.map (zC false) s.Commits))))) [],.q 4 36 (.pl (.one (.v (.sc (.bool x36))))) [1],.q 5 2 (.pl (.one (.v (.sc (.bool x36))))) [1,4]] [(1,33),(4,36),(5,2)] [(1,true,[],[]),(4,true,[1],[]),(5,true,[1,4],[])] ⟨?_,?_,?_,trivial⟩ ⟨rfl,shd [2] [] 2 rfl⟩
     ·refine qB 0 ⟨37,2,4,[(32,.pl (.one (.addr 2 [] 0 0 0))),(35,.pl (.one (.ref 3 [])))],[(2,.box true [.list false 3 (List.map (zC false) s.Commits),.list false 2 (List.map (zD false) s.Files)]),(3,.list true 1 (List.map (rK .i64) x35))]⟩ ?_
      refine ops H' ?_
      refine zG ⟨rfl,shd [33,32,35] [(2,2),(3,3)] 4 rfl⟩
     ·refine qB 1 ⟨37,2,4,[(33,.pl (.one (.v (.list false 3 (List.map (zC false) s.Commits))))),(32,.pl (.one (.addr 2 [] 0 0 0))),(35,.pl (.one (.ref 3 [])))],[(2,.box true [.list false 3 (List.map (zC false) s.Commits),.list false 2 (List.map (zD false) s.Files)]),(3,.list true 1 (List.map (rK .i64) x35))]⟩ ?_
      refine zR H' (fun _=>[]) (W_spec_CommitsOk _ _ _ hy_x36) ?_
      refine zG ⟨rfl,shd [36,32,35] [(2,2),(3,3)] 4 rfl⟩
     ·refine qB 2 ⟨37,2,4,[(33,.pl (.one (.v (.list false 3 (List.map (zC false) s.Commits))))),(36,.pl (.one (.v (.sc (.bool x36))))),(32,.pl (.one (.addr 2 [] 0 0 0))),(35,.pl (.one (.ref 3 [])))],[(2,.box true [.list false 3 (List.map (zC false) s.Commits),.list false 2 (List.map (zD false) s.Files)]),(3,.list true 1 (List.map (rK .i64) x35))]⟩ ?_
      refine ops H' ?_
      refine zG ⟨rfl,shd [2,32,35] [(2,2),(3,3)] 4 rfl⟩
    have d1':anyF X ?o0 [0] [(1,33,.pl (.one (.v (.list false 3 (List.map (zC false) s.Commits))))),(2,34,.pl (.agg [.v (.list false 3 (List.map (zC false) s.Commits)),.v (.list false 2 (List.map (zD false) s.Files))])),(4,36,.pl (.one (.v (.sc (.bool x36))))),(5,2,.pl (.one (.v (.sc (.bool x36)))))] ?P0 ⟨37,2,3,[(1,.pl (.one (.ref 2 []))),(32,.pl (.one (.addr 2 [] 0 0 0)))],[(2,.box true [.list false 3 (List.map (zC false) s.Commits),.list false 2 (List.map (zD false) s.Files)])]⟩:=by
     refine fnode [1,2] [.q 1 33 (.pl (.one (.v (.list false 3 (List.map (zC false) s.Commits))))) [],.q 2 34 (.pl (.agg [.v (.list false 3 (List.map (zC false) s.Commits)),.v (.list false 2 (List.map (zD false) s.Files))])) [],.m 3 [2] [0,2,3] [(1,33,.pl (.one (.v (.list false 3 (List.map (zC false) s.Commits))))),(4,36,.pl (.one (.v (.sc (.bool x36))))),(5,2,.pl (.one (.v (.sc (.bool x36)))))]] [(1,33),(2,34),(4,36),(5,2)] [(1,true,[],[]),(2,true,[],[]),(3,false,[2],[0,2,3])] ⟨?_,?_,?_,trivial⟩
     ·refine qB 0 ⟨37,2,3,[(1,.pl (.one (.ref 2 []))),(32,.pl (.one (.addr 2 [] 0 0 0)))],[(2,.box true [.list false 3 (List.map (zC false) s.Commits),.list false 2 (List.map (zD false) s.Files)])]⟩ ?_
      refine ops H' ?_
      refine zG ⟨rfl,shd [33,1,32] [(2,2)] 3 rfl⟩
     ·refine qB 1 ⟨37,2,3,[(1,.pl (.one (.ref 2 []))),(32,.pl (.one (.addr 2 [] 0 0 0)))],[(2,.box true [.list false 3 (List.map (zC false) s.Commits),.list false 2 (List.map (zD false) s.Files)])]⟩ ?_
      refine ops H' ?_
      refine zG ⟨rfl,shd [34,1,32] [(2,2)] 3 rfl⟩
     ·refine obMx ⟨37,2,3,[(34,.pl (.agg [.v (.list false 3 (List.map (zC false) s.Commits)),.v (.list false 2 (List.map (zD false) s.Files))])),(1,.pl (.one (.ref 2 []))),(32,.pl (.one (.addr 2 [] 0 0 0)))],[(2,.box true [.list false 3 (List.map (zC false) s.Commits),.list false 2 (List.map (zD false) s.Files)])]⟩ ?_
      refine zR H' (fun _=>[]) (W_spec_l15Versions _ _ hy_x35) ?_
      refine zG ⟨rfl,.inl ⟨rfl,?_⟩⟩
      exact qN [32,35] [(2,2),(3,3)] 4 d0'
    refine fpure H' 0 [0] [(1,33),(2,34),(4,36),(5,2)] ?_
    exact qN [1,32] [(2,2)] 3 d1'
   ·rintro e' rfl
    refine contN ?_
    refine zN ?_
    obtain rfl:=zso h0'
    exact zO H' rfl rfl
theorem W_spec_l15Has (s:T_impl_Store) (c:Int) (r':Bool) (h0':spec_l15Has s c=some r'):Fn X 228 [.agg [.list false 3 (List.map (zC false) s.Commits),.list false 2 (List.map (zD false) s.Files)],.one (.sc (.int .i64 c))] [.one (.sc (.bool r'))] []:=by
 have H':=And.intro t3 (And.intro t24 (And.intro t27 (And.intro qT (And.intro qL (And.intro qI (And.intro zZ (And.intro qV (qK))))))))
 unfold spec_l15Has at h0'
 refine Fn.start (fn:=f228) (N:=11) (res:=[.tmp 4]) rfl rfl rfl rfl rfl (by simp) ?_
 refine zU H' ?_
 refine zB ?_
 refine zA ?_
 refine ops H' ?_
 refine zE ?_
 refine zB ?_
 refine zA ?_
 refine ops H' ?_
 obtain ⟨x10,hy',h0'⟩:=zbi h0'
 refine zR H' (fun _=>[]) (W_spec_l01In _ _ _ _ hy') ?_
 refine ops H' ?_
 refine zE ?_
 refine zN ?_
 obtain rfl:=zso h0'
 exact zO H' rfl rfl
theorem W_spec_NamesAt (s:T_impl_Store) (c:Int) (r':(List T_impl_Name)×Int) (h0':spec_NamesAt s c=some r'):Fn X 160 [.agg [.list false 3 (List.map (zC false) s.Commits),.list false 2 (List.map (zD false) s.Files)],.one (.sc (.int .i64 c))] [.one (.list true 3 (List.map (zJ true) r'.1)),.one (.sc (.int .i64 r'.2))] []:=by
 have H':=And.intro t24 (And.intro t27 (And.intro t41 (And.intro t43 (And.intro t45 (And.intro qT (And.intro qL (And.intro qI (And.intro zZ (And.intro qV (qK))))))))))
 unfold spec_NamesAt at h0'
 refine Fn.start (fn:=f160) (N:=23) (res:=[.tmp 4,.tmp 5]) rfl rfl rfl rfl rfl (by simp) ?_
 refine zU H' ?_
 refine zB ?_
 refine zA ?_
 refine opsV_1 H' ?_
 refine opsV_nilA H' 3 ?_
 refine ops H' ?_
 refine zE ?_
 refine zB ?_
 refine zB ?_
 refine zA ?_
 refine ops H' ?_
 obtain ⟨x7,hy',h0'⟩:=zbi h0'
 refine zR H' (fun _=>[]) (W_spec_StoreOk _ _ hy') ?_
 refine ops H' ?_
 refine zE ?_
 refine zH (fun hc'=>?_) (fun hc'=>?_)
 ·replace h0':=(ifT hc').symm.trans h0'
  refine zB ?_
  refine zA ?_
  refine ops H' ?_
  refine zE ?_
  refine zN ?_
  obtain rfl:=zso h0'
  exact zO H' rfl rfl
 ·replace h0':=(ifF hc').symm.trans h0'
  refine zM ?_
  refine zB ?_
  refine zB ?_
  refine zA ?_
  refine ops H' ?_
  obtain ⟨x12,hy',h0'⟩:=zbi h0'
  refine zR H' (fun _=>[]) (W_spec_l15Has _ _ _ hy') ?_
  refine ops H' ?_
  refine zE ?_
  refine zH (fun hc'=>?_) (fun hc'=>?_)
  ·replace h0':=(ifT hc').symm.trans h0'
   refine zB ?_
   refine zA ?_
   refine ops H' ?_
   refine zE ?_
   refine zN ?_
   obtain rfl:=zso h0'
   exact zO H' rfl rfl
  ·replace h0':=(ifF hc').symm.trans h0'
   refine zM ?_
   refine zB ?_
   refine zA ?_
   obtain ⟨x,hv',h0'⟩:=zbi h0'
   have H':=And.intro (zP hv') H'
   obtain ⟨l,hv',h0'⟩:=zbi h0'
   have H':=And.intro (appz_f (zJ true) hv') H'
   refine ops H' ?_
   refine zE ?_
   refine zN ?_
   obtain rfl:=zso h0'
   exact zO H' rfl rfl
theorem W_spec_l13Path (list_:List T_impl_Name) (path:ByteArray) (r':Int) (h0':spec_l13Path list_ path=some r'):Fn X 161 [.one (.list false 3 (List.map (zJ true) list_)),.one (.sc (.string path))] [.one (.sc (.int .i64 r'))] []:=by
 have H':=And.intro t3 (And.intro t9 (And.intro t41 (And.intro t45 (zZ))))
 unfold spec_l13Path at h0'
 refine Fn.start (fn:=f161) (N:=20) (res:=[.tmp 4]) rfl rfl rfl rfl rfl (by simp) ?_
 refine zU H' ?_
 refine zB ?_
 refine zA ?_
 refine ops H' ?_
 refine zE ?_
 refine zV (fun e'=>spec_l13Path_j1=some r'∧e'=⟨20,2,2,[],[]⟩) ?_ ?_
 ·refine zB ?_
  refine zA ?_
  refine ops H' ?_
  refine zE ?_
  obtain ⟨p,hl',h0'⟩:=zbi h0'
  refine zI ?_
  refine zS (fun i e'=>e'=⟨20,2,2,[(0,.pl (.one (.v (.list false 3 (List.map (zJ true) list_))))),(1,.pl (.one (.v (.sc (.string path))))),(5,.pl (.one (.v (.sc (.int .i64 i)))))],[]⟩) hl' (shd [0,1,5] [] 2 rfl) ?_
  rintro i y1' e' h1' rfl
  replace h1':spec_l13Path_l1 list_ path i=some y1':=h1'
  unfold spec_l13Path_l1 at h1'
  refine zB ?_
  refine zB ?_
  refine zA ?_
  refine ops H' ?_
  refine zE ?_
  refine zH (fun hc'=>?_) (fun hc'=>?_)
  ·replace h1':=(ifT hc').symm.trans h1'
   refine zM ?_
   refine zB ?_
   refine zI ?_
   refine zB ?_
   refine zA ?_
   obtain ⟨x,hv',h1'⟩:=zbi h1'
   have H':=And.intro (zP hv') H'
   refine ops H' ?_
   refine zE ?_
   refine zH (fun hc'=>?_) (fun hc'=>?_)
   ·replace h1':=(ifT hc').symm.trans h1'
    refine zB ?_
    refine zA ?_
    refine ops H' ?_
    refine zE ?_
    refine zN ?_
    obtain rfl:=zso h1'
    refine ⟨_,rfl,fun hr'=>?_⟩
    subst hr'
    obtain rfl:=zso h0'
    exact zO H' rfl rfl
   ·replace h1':=(ifF hc').symm.trans h1'
    refine zM ?_
    refine zA ?_
    refine ops H' ?_
    refine zE ?_
    obtain rfl:=zso h1'
    exact shd [0,1,5] [] 2 ⟨_,rfl,rfl⟩
  ·replace h1':=(ifF hc').symm.trans h1'
   refine qJ ?_
   obtain rfl:=zso h1'
   refine ⟨_,rfl,fun hr'=>?_⟩
   subst hr'
   exact shd [] [] 2 ⟨h0',rfl⟩
 ·rintro e' ⟨h0',rfl⟩
  unfold spec_l13Path_j1 at h0'
  refine zB ?_
  refine zA ?_
  refine ops H' ?_
  refine zE ?_
  refine zN ?_
  obtain rfl:=zso h0'
  exact zO H' rfl rfl
theorem W_spec_l15Find (s:T_impl_Store) (c:Int) (path:ByteArray) (r':T_impl_Name×Int) (h0':spec_l15Find s c path=some r'):Fn X 64 [.agg [.list false 3 (List.map (zC false) s.Commits),.list false 2 (List.map (zD false) s.Files)],.one (.sc (.int .i64 c)),.one (.sc (.string path))] [.agg [.sc (.string r'.1.Path),.sc (.int .i64 r'.1.Id),.sc (.int .i64 r'.1.Version)],.one (.sc (.int .i64 r'.2))] []:=by
 have H':=And.intro t3 (And.intro t9 (And.intro t27 (And.intro t41 (And.intro t45 (And.intro qT (And.intro qL (And.intro qI (And.intro zZ (And.intro qV (qK))))))))))
 unfold spec_l15Find at h0'
 refine Fn.start (fn:=f64) (N:=31) (res:=[.cell 6 45,.tmp 7]) rfl rfl rfl rfl rfl (by simp) ?_
 refine zU H' ?_
 refine zB ?_
 refine zA ?_
 refine ops H' ?_
 refine zE ?_
 refine zB ?_
 refine zA ?_
 refine ops H' ?_
 obtain ⟨x14,hy',h0'⟩:=zbi h0'
 refine zR H' (fun _=>[]) (W_spec_NamesAt _ _ _ hy') ?_
 refine ops H' ?_
 refine zE ?_
 refine zB ?_
 refine zB ?_
 refine zA ?_
 refine ops H' ?_
 refine zE ?_
 refine zH (fun hc'=>?_) (fun hc'=>?_)
 ·replace h0':=(ifT hc').symm.trans h0'
  refine zB ?_
  refine zA ?_
  refine ops H' ?_
  refine zE ?_
  refine zN ?_
  obtain rfl:=zso h0'
  exact outC H' rfl rfl
 ·replace h0':=(ifF hc').symm.trans h0'
  refine zM ?_
  refine zB ?_
  refine zA ?_
  refine ops H' ?_
  obtain ⟨x23,hy',h0'⟩:=zbi h0'
  refine zR H' (fun _=>[]) (W_spec_l13Path _ _ _ hy') ?_
  refine ops H' ?_
  refine zE ?_
  refine zB ?_
  refine zB ?_
  refine zA ?_
  refine ops H' ?_
  refine zE ?_
  refine zH (fun hc'=>?_) (fun hc'=>?_)
  ·replace h0':=(ifT hc').symm.trans h0'
   refine zB ?_
   refine zA ?_
   refine ops H' ?_
   refine zE ?_
   refine zN ?_
   obtain rfl:=zso h0'
   exact outC H' rfl rfl
  ·replace h0':=(ifF hc').symm.trans h0'
   refine zM ?_
   refine zB ?_
   refine zA ?_
   obtain ⟨x,hv',h0'⟩:=zbi h0'
   have H':=And.intro (zP hv') H'
   refine ops H' ?_
   refine zE ?_
   refine zN ?_
   obtain rfl:=zso h0'
   exact outC H' rfl rfl
theorem W_spec_LogOf (list_:List T_impl_Commit) (versions:List Int) (c:Int) (r':(List Int)) (h0':spec_LogOf list_ versions c=some r'):Fn X 65 [.one (.list false 3 (List.map (zC false) list_)),.one (.list false 1 (List.map (rK .i64) versions)),.one (.sc (.int .i64 c))] [.one (.list true 1 (List.map (rK .i64) r'))] []:=by
 have H':=And.intro t3 (And.intro t4 (And.intro t24 (And.intro t40 (And.intro t202 (And.intro qT (And.intro qI (And.intro zZ (And.intro R_b (qK)))))))))
 unfold spec_LogOf at h0'
 refine Fn.start (fn:=f65) (N:=45) (res:=[.tmp 6]) rfl rfl rfl rfl rfl (by simp) ?_
 refine zU H' ?_
 refine zB ?_
 refine zA ?_
 refine ops H' ?_
 refine zE ?_
 refine zB ?_
 refine zA ?_
 refine ops H' ?_
 refine zE ?_
 refine zB ?_
 refine zB ?_
 refine zA ?_
 refine ops H' ?_
 obtain ⟨x13,hy',h0'⟩:=zbi h0'
 refine zR H' (fun _=>[]) (W_spec_CommitsOk _ _ _ hy') ?_
 refine ops H' ?_
 obtain ⟨b,gh0',h0'⟩:=zbi h0'
 refine qC 7 (fun e'=>e'=⟨45,3,4,[(0,.pl (.one (.v (.list false 3 (List.map (zC false) list_))))),(2,.pl (.one (.v (.sc (.int .i64 c))))),(7,.pl (.one (.ref 3 []))),(22,.pl (.one (.v (.sc (.bool b)))))],[(3,.list true 1 (List.map (rK .i64) []))]⟩) ?_ ?_
 ·simp only [List.take_succ_cons,List.take_zero]
  refine qE (fun hc'=>?_) (fun hc'=>?_)
  ·replace gh0':=(ifF hc').symm.trans gh0'
   refine ops H' ?_
   obtain ⟨x20,hy',gh0'⟩:=zbi gh0'
   refine zR H' (fun _=>[]) (W_spec_l01In _ _ _ _ hy') ?_
   refine ops H' ?_
   obtain rfl:=zso gh0'
   refine zG ?_
   exact ⟨rfl,shd [0,2,7,22] [(4,3)] 4 rfl⟩
  ·replace gh0':=(ifT hc').symm.trans gh0'
   refine ops H' ?_
   obtain rfl:=zso gh0'
   refine zG ?_
   exact ⟨rfl,shd [0,2,7,22] [(4,3)] 4 rfl⟩
 ·rintro e' rfl
  simp only [List.drop_succ_cons,List.drop_zero]
  refine zE ?_
  refine zH (fun hc'=>?_) (fun hc'=>?_)
  ·replace h0':=(ifT hc').symm.trans h0'
   refine zB ?_
   refine zA ?_
   refine ops H' ?_
   refine zE ?_
   refine zN ?_
   obtain rfl:=zso h0'
   exact zO H' rfl rfl
  ·replace h0':=(ifF hc').symm.trans h0'
   refine zM ?_
   refine zB ?_
   refine zA ?_
   refine ops H' ?_
   obtain ⟨x25,hy',h0'⟩:=zbi h0'
   refine callGD H' (fun _=>[]) (W_spec_l14Graph _ _ hy') ?_
   refine ops H' ?_
   obtain ⟨x28,hy',h0'⟩:=zbi h0'
   refine zR H' (fun _=>[]) (W_spec_l05Set _ _ _ hy') ?_
   refine ops H' ?_
   refine zE ?_
   refine zV (fun e'=>∃ out_,spec_LogOf_j1 out_=some r'∧e'=⟨45,3,4,[(7,.pl (.one (.ref 3 [])))],[(3,.list true 1 (List.map (rK .i64) out_))]⟩) ?_ ?_
   ·refine zB ?_
    refine zA ?_
    refine ops H' ?_
    refine zE ?_
    obtain ⟨p,hl',h0'⟩:=zbi h0'
    refine zI ?_
    refine zS (fun s' e'=>∃ v out__1,s'=(v,out__1)∧e'=⟨45,3,5,[(7,.pl (.one (.ref 3 []))),(8,.pl (.one (.ref 4 []))),(9,.pl (.one (.v (.sc (.int .i64 v)))))],[(3,.list true 1 (List.map (rK .i64) out__1)),(4,.list true 1 (List.map rB x28))]⟩) hl' (shd [7,8,9] [(3,3),(6,4)] 5 ⟨_,_,rfl,rfl⟩) ?_
    rintro s' y1' e' h1' ⟨v,out__1,rfl,rfl⟩
    replace h1':spec_LogOf_l1 x28 v out__1=some y1':=h1'
    unfold spec_LogOf_l1 at h1'
    refine zB ?_
    refine zB ?_
    refine zA ?_
    refine ops H' ?_
    refine zE ?_
    refine zH (fun hc'=>?_) (fun hc'=>?_)
    ·replace h1':=(ifT hc').symm.trans h1'
     refine zM ?_
     refine zB ?_
     refine zI ?_
     refine zB ?_
     refine zA ?_
     obtain ⟨x,hv',h1'⟩:=zbi h1'
     have H':=And.intro (zP hv') H'
     refine ops H' ?_
     refine zE ?_
     refine zH (fun hc'=>?_) (fun hc'=>?_)
     ·replace h1':=(ifT hc').symm.trans h1'
      refine zA ?_
      obtain ⟨l,hv',h1'⟩:=zbi h1'
      have H':=And.intro (app1_f hv') H'
      refine ops H' ?_
      refine zE ?_
      refine zA ?_
      refine ops H' ?_
      refine zE ?_
      obtain rfl:=zso h1'
      exact shd [7,8,9] [(3,3),(4,4)] 5 ⟨_,rfl,_,_,rfl,rfl⟩
     ·replace h1':=(ifF hc').symm.trans h1'
      refine zM ?_
      refine zA ?_
      refine ops H' ?_
      refine zE ?_
      obtain rfl:=zso h1'
      exact shd [7,8,9] [(3,3),(4,4)] 5 ⟨_,rfl,_,_,rfl,rfl⟩
    ·replace h1':=(ifF hc').symm.trans h1'
     refine qJ ?_
     obtain rfl:=zso h1'
     refine ⟨_,rfl,fun hr'=>?_⟩
     subst hr'
     exact shd [7] [(3,3)] 4 ⟨_,h0',rfl⟩
   ·rintro e' ⟨out_,h0',rfl⟩
    unfold spec_LogOf_j1 at h0'
    refine zB ?_
    refine zA ?_
    refine ops H' ?_
    refine zE ?_
    refine zN ?_
    obtain rfl:=zso h0'
    exact zO H' rfl rfl
theorem W_spec_l13Id (list_:List T_impl_Name) (id:Int) (r':Int) (h0':spec_l13Id list_ id=some r'):Fn X 164 [.one (.list false 3 (List.map (zJ true) list_)),.one (.sc (.int .i64 id))] [.one (.sc (.int .i64 r'))] []:=by
 have H':=And.intro t3 (And.intro t41 (And.intro t45 (zZ)))
 unfold spec_l13Id at h0'
 refine Fn.start (fn:=f164) (N:=20) (res:=[.tmp 4]) rfl rfl rfl rfl rfl (by simp) ?_
 refine zU H' ?_
 refine zB ?_
 refine zA ?_
 refine ops H' ?_
 refine zE ?_
 refine zV (fun e'=>spec_l13Id_j1=some r'∧e'=⟨20,2,2,[],[]⟩) ?_ ?_
 ·refine zB ?_
  refine zA ?_
  refine ops H' ?_
  refine zE ?_
  obtain ⟨p,hl',h0'⟩:=zbi h0'
  refine zI ?_
  refine zS (fun i e'=>e'=⟨20,2,2,[(0,.pl (.one (.v (.list false 3 (List.map (zJ true) list_))))),(1,.pl (.one (.v (.sc (.int .i64 id))))),(5,.pl (.one (.v (.sc (.int .i64 i)))))],[]⟩) hl' (shd [0,1,5] [] 2 rfl) ?_
  rintro i y1' e' h1' rfl
  replace h1':spec_l13Id_l1 list_ id i=some y1':=h1'
  unfold spec_l13Id_l1 at h1'
  refine zB ?_
  refine zB ?_
  refine zA ?_
  refine ops H' ?_
  refine zE ?_
  refine zH (fun hc'=>?_) (fun hc'=>?_)
  ·replace h1':=(ifT hc').symm.trans h1'
   refine zM ?_
   refine zB ?_
   refine zI ?_
   refine zB ?_
   refine zA ?_
   obtain ⟨x,hv',h1'⟩:=zbi h1'
   have H':=And.intro (zP hv') H'
   refine ops H' ?_
   refine zE ?_
   refine zH (fun hc'=>?_) (fun hc'=>?_)
   ·replace h1':=(ifT hc').symm.trans h1'
    refine zB ?_
    refine zA ?_
    refine ops H' ?_
    refine zE ?_
    refine zN ?_
    obtain rfl:=zso h1'
    refine ⟨_,rfl,fun hr'=>?_⟩
    subst hr'
    obtain rfl:=zso h0'
    exact zO H' rfl rfl
   ·replace h1':=(ifF hc').symm.trans h1'
    refine zM ?_
    refine zA ?_
    refine ops H' ?_
    refine zE ?_
    obtain rfl:=zso h1'
    exact shd [0,1,5] [] 2 ⟨_,rfl,rfl⟩
  ·replace h1':=(ifF hc').symm.trans h1'
   refine qJ ?_
   obtain rfl:=zso h1'
   refine ⟨_,rfl,fun hr'=>?_⟩
   subst hr'
   exact shd [] [] 2 ⟨h0',rfl⟩
 ·rintro e' ⟨h0',rfl⟩
  unfold spec_l13Id_j1 at h0'
  refine zB ?_
  refine zA ?_
  refine ops H' ?_
  refine zE ?_
  refine zN ?_
  obtain rfl:=zso h0'
  exact zO H' rfl rfl
theorem W_spec_l14Differs (a:List T_impl_Name) (b:List T_impl_Name) (id:Int) (r':Bool) (h0':spec_l14Differs a b id=some r'):Fn X 165 [.one (.list false 3 (List.map (zJ true) a)),.one (.list false 3 (List.map (zJ true) b)),.one (.sc (.int .i64 id))] [.one (.sc (.bool r'))] []:=by
 have H':=And.intro t3 (And.intro t9 (And.intro t41 (And.intro t45 (zZ))))
 unfold spec_l14Differs at h0'
 refine Fn.start (fn:=f165) (N:=36) (res:=[.tmp 6]) rfl rfl rfl rfl rfl (by simp) ?_
 refine zU H' ?_
 refine zB ?_
 refine zA ?_
 refine ops H' ?_
 refine zE ?_
 refine zB ?_
 refine zA ?_
 refine ops H' ?_
 obtain ⟨x11,hy',h0'⟩:=zbi h0'
 refine zR H' (fun _=>[]) (W_spec_l13Id _ _ _ hy') ?_
 refine ops H' ?_
 refine zE ?_
 refine zB ?_
 refine zA ?_
 refine ops H' ?_
 obtain ⟨x14,hy',h0'⟩:=zbi h0'
 refine zR H' (fun _=>[]) (W_spec_l13Id _ _ _ hy') ?_
 refine ops H' ?_
 refine zE ?_
 refine zB ?_
 refine zB ?_
 refine zA ?_
 refine ops H' ?_
 obtain ⟨b_1,gh0',h0'⟩:=zbi h0'
 refine qC 3 (fun e'=>e'=⟨36,3,3,[(0,.pl (.one (.v (.list false 3 (List.map (zJ true) a))))),(1,.pl (.one (.v (.list false 3 (List.map (zJ true) b))))),(7,.pl (.one (.v (.sc (.int .i64 x11))))),(8,.pl (.one (.v (.sc (.int .i64 x14))))),(20,.pl (.one (.v (.sc (.bool b_1)))))],[]⟩) ?_ ?_
 ·simp only [List.take_succ_cons,List.take_zero]
  refine qE (fun hc'=>?_) (fun hc'=>?_)
  ·replace gh0':=(ifF hc').symm.trans gh0'
   refine ops H' ?_
   obtain rfl:=zso gh0'
   refine zG ?_
   exact ⟨rfl,shd [0,1,7,8,20] [] 3 rfl⟩
  ·replace gh0':=(ifT hc').symm.trans gh0'
   refine ops H' ?_
   obtain rfl:=zso gh0'
   refine zG ?_
   exact ⟨rfl,shd [0,1,7,8,20] [] 3 rfl⟩
 ·rintro e' rfl
  simp only [List.drop_succ_cons,List.drop_zero]
  refine zE ?_
  refine zH (fun hc'=>?_) (fun hc'=>?_)
  ·replace h0':=(ifT hc').symm.trans h0'
   refine zB ?_
   refine zA ?_
   refine ops H' ?_
   obtain ⟨b_2,gh0',h0'⟩:=zbi h0'
   refine qC 3 (fun e'=>e'=⟨36,3,3,[(26,.pl (.one (.v (.sc (.bool b_2)))))],[]⟩) ?_ ?_
   ·simp only [List.take_succ_cons,List.take_zero]
    refine qE (fun hc'=>?_) (fun hc'=>?_)
    ·replace gh0':=(ifF hc').symm.trans gh0'
     refine ops H' ?_
     obtain rfl:=zso gh0'
     refine zG ?_
     exact ⟨rfl,shd [26] [] 3 rfl⟩
    ·replace gh0':=(ifT hc').symm.trans gh0'
     refine ops H' ?_
     obtain rfl:=zso gh0'
     refine zG ?_
     exact ⟨rfl,shd [26] [] 3 rfl⟩
   ·rintro e' rfl
    simp only [List.drop_succ_cons,List.drop_zero]
    refine ops H' ?_
    refine zE ?_
    refine zN ?_
    obtain rfl:=zso h0'
    exact zO H' rfl rfl
  ·replace h0':=(ifF hc').symm.trans h0'
   refine zM ?_
   refine zB ?_
   refine regQ ?_
   obtain ⟨x,hv',h0'⟩:=zbi h0'
   have H':=And.intro (zP hv') H'
   obtain ⟨x_1,hv',h0'⟩:=zbi h0'
   have H':=And.intro (zP hv') H'
   refine ops H' ?_
   refine quV_cmp H' (by kernel_rfl) ?_
   refine ops H' ?_
   refine quN ?_
   refine zN ?_
   obtain rfl:=zso h0'
   exact zO H' rfl rfl
end Go.TV.KFnExactFileLog
