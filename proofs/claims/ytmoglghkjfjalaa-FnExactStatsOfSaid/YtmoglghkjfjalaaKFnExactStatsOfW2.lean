/- Walks. -/
import Derived.Test.YtmoglghkjfjalaaKFnExactStatsOfE
import Derived.Test.YtmoglghkjfjalaaKFnExactStatsOfW0
import Derived.Test.YtmoglghkjfjalaaKFnExactStatsOfW1
set_option linter.unusedVariables false
set_option linter.unusedSimpArgs false
set_option maxHeartbeats 8000000
set_option maxRecDepth 100000
namespace Go.TV.KFnExactStatsOf
attribute [local irreducible] anyV wpV opsV Does thenV blockV RetL quV seqV
open Go.Proofs.Try Go.TV.F
theorem W_spec_NoteOk (note:ByteArray) (r':Bool) (h0':spec_NoteOk note=some r'):Fn X 163 [.one (.sc (.string note))] [.one (.sc (.bool r'))] []:=by
 have H':=And.intro t3 (And.intro t5 (t9))
 unfold spec_NoteOk at h0'
 refine Fn.start (fn:=f163) (N:=28) (res:=[.tmp 2]) rfl rfl rfl rfl rfl (by simp) ?_
 refine zW H' ?_
 refine zB ?_
 refine zA ?_
 refine ops H' ?_
 refine zF ?_
 refine zU (fun e'=>spec_NoteOk_j1 note=some r'∧e'=⟨28,1,1,[(0,.pl (.one (.v (.sc (.string note)))))],[]⟩) ?_ ?_
 ·refine zB ?_
  refine zA ?_
  refine ops H' ?_
  refine zF ?_
  obtain ⟨p,hl',h0'⟩:=zbi h0'
  refine zI ?_
  refine zR (fun i e'=>e'=⟨28,1,1,[(0,.pl (.one (.v (.sc (.string note))))),(3,.pl (.one (.v (.sc (.int .i64 i)))))],[]⟩) hl' (shd [0,3] [] 1 rfl) ?_
  rintro i y1' e' h1' rfl
  replace h1':spec_NoteOk_l1 note i=some y1':=h1'
  unfold spec_NoteOk_l1 at h1'
  refine zB ?_
  refine zB ?_
  refine zA ?_
  refine ops H' ?_
  obtain ⟨b,gh1',h1'⟩:=zbi h1'
  refine qE 4 (fun e'=>e'=⟨28,1,1,[(0,.pl (.one (.v (.sc (.string note))))),(3,.pl (.one (.v (.sc (.int .i64 i))))),(12,.pl (.one (.v (.sc (.bool b)))))],[]⟩) ?_ ?_
  ·simp only [List.take_succ_cons,List.take_zero]
   refine qI (fun hc'=>?_) (fun hc'=>?_)
   ·replace gh1':=(ifT hc').symm.trans gh1'
    refine ops H' ?_
    obtain rfl:=zso gh1'
    refine zG ?_
    exact ⟨rfl,shd [0,3,12] [] 1 rfl⟩
   ·replace gh1':=(ifF hc').symm.trans gh1'
    refine ops H' ?_
    obtain rfl:=zso gh1'
    refine zG ?_
    exact ⟨rfl,shd [0,3,12] [] 1 rfl⟩
  ·rintro e' rfl
   simp only [List.drop_succ_cons,List.drop_zero]
   refine zF ?_
   refine zH (fun hc'=>?_) (fun hc'=>?_)
   ·replace h1':=(ifT hc').symm.trans h1'
    refine zM ?_
    refine zB ?_
    refine zI ?_
    refine zB ?_
    refine zA ?_
    obtain ⟨x17,hv',h1'⟩:=zbi h1'
    have H':=And.intro (sidx_f hv') H'
    refine ops H' ?_
    obtain ⟨b_1,gh1',h1'⟩:=zbi h1'
    refine qE 5 (fun e'=>e'=⟨28,1,1,[(0,.pl (.one (.v (.sc (.string note))))),(3,.pl (.one (.v (.sc (.int .i64 i))))),(24,.pl (.one (.v (.sc (.bool b_1)))))],[]⟩) ?_ ?_
    ·simp only [List.take_succ_cons,List.take_zero]
     refine qI (fun hc'=>?_) (fun hc'=>?_)
     ·replace gh1':=(ifF hc').symm.trans gh1'
      refine ops H' ?_
      obtain rfl:=zso gh1'
      refine zG ?_
      exact ⟨rfl,shd [0,3,24] [] 1 rfl⟩
     ·replace gh1':=(ifT hc').symm.trans gh1'
      refine ops H' ?_
      obtain rfl:=zso gh1'
      refine zG ?_
      exact ⟨rfl,shd [0,3,24] [] 1 rfl⟩
    ·rintro e' rfl
     simp only [List.drop_succ_cons,List.drop_zero]
     refine zF ?_
     refine zH (fun hc'=>?_) (fun hc'=>?_)
     ·replace h1':=(ifT hc').symm.trans h1'
      refine zB ?_
      refine zA ?_
      refine ops H' ?_
      refine zF ?_
      refine zN ?_
      obtain rfl:=zso h1'
      refine ⟨_,rfl,fun hr'=>?_⟩
      subst hr'
      obtain rfl:=zso h0'
      exact zP H' rfl rfl
     ·replace h1':=(ifF hc').symm.trans h1'
      refine zM ?_
      refine zA ?_
      refine ops H' ?_
      refine zF ?_
      obtain rfl:=zso h1'
      exact shd [0,3] [] 1 ⟨_,rfl,rfl⟩
   ·replace h1':=(ifF hc').symm.trans h1'
    refine qJ ?_
    obtain rfl:=zso h1'
    refine ⟨_,rfl,fun hr'=>?_⟩
    subst hr'
    exact shd [0] [] 1 ⟨h0',rfl⟩
 ·rintro e' ⟨h0',rfl⟩
  unfold spec_NoteOk_j1 at h0'
  refine zB ?_
  refine zA ?_
  refine ops H' ?_
  refine zF ?_
  refine zN ?_
  obtain rfl:=zso h0'
  exact zP H' rfl rfl
theorem W_spec_PathOk (path:ByteArray) (r':Bool) (h0':spec_PathOk path=some r'):Fn X 186 [.one (.sc (.string path))] [.one (.sc (.bool r'))] []:=by
 have H':=And.intro t3 (And.intro t5 (t9))
 unfold spec_PathOk at h0'
 refine Fn.start (fn:=f186) (N:=73) (res:=[.tmp 2]) rfl rfl rfl rfl rfl (by simp) ?_
 refine zW H' ?_
 refine zB ?_
 refine zA ?_
 refine ops H' ?_
 refine zF ?_
 refine zB ?_
 refine zA ?_
 refine ops H' ?_
 refine zF ?_
 refine zB ?_
 refine zB ?_
 refine zA ?_
 refine ops H' ?_
 obtain ⟨x9,hy',h0'⟩:=zbi h0'
 refine zY H' (fun _=>[]) (W_spec_l01In _ _ _ _ hy') ?_
 refine ops H' ?_
 obtain ⟨b,gh0',h0'⟩:=zbi h0'
 refine qE 4 (fun e'=>e'=⟨73,1,1,[(0,.pl (.one (.v (.sc (.string path))))),(3,.pl (.one (.v (.sc (.int .i64 (path.size:Int)))))),(15,.pl (.one (.v (.sc (.bool b)))))],[]⟩) ?_ ?_
 ·simp only [List.take_succ_cons,List.take_zero]
  refine qI (fun hc'=>?_) (fun hc'=>?_)
  ·replace gh0':=(ifF hc').symm.trans gh0'
   obtain ⟨x13,hv',gh0'⟩:=zbi gh0'
   have H':=And.intro (sidx_f hv') H'
   refine ops H' ?_
   obtain rfl:=zso gh0'
   refine zG ?_
   exact ⟨rfl,shd [0,3,15] [] 1 rfl⟩
  ·replace gh0':=(ifT hc').symm.trans gh0'
   refine ops H' ?_
   obtain rfl:=zso gh0'
   refine zG ?_
   exact ⟨rfl,shd [0,3,15] [] 1 rfl⟩
 ·rintro e' rfl
  simp only [List.drop_succ_cons,List.drop_zero]
  refine ops H' ?_
  obtain ⟨b_1,gh0',h0'⟩:=zbi h0'
  refine qE 6 (fun e'=>e'=⟨73,1,1,[(0,.pl (.one (.v (.sc (.string path))))),(3,.pl (.one (.v (.sc (.int .i64 (path.size:Int)))))),(22,.pl (.one (.v (.sc (.bool b_1)))))],[]⟩) ?_ ?_
  ·simp only [List.take_succ_cons,List.take_zero]
   refine qI (fun hc'=>?_) (fun hc'=>?_)
   ·replace gh0':=(ifF hc').symm.trans gh0'
    obtain ⟨x20,hv',gh0'⟩:=zbi gh0'
    have H':=And.intro (sidx_f hv') H'
    refine ops H' ?_
    obtain rfl:=zso gh0'
    refine zG ?_
    exact ⟨rfl,shd [0,3,22] [] 1 rfl⟩
   ·replace gh0':=(ifT hc').symm.trans gh0'
    refine ops H' ?_
    obtain rfl:=zso gh0'
    refine zG ?_
    exact ⟨rfl,shd [0,3,22] [] 1 rfl⟩
  ·rintro e' rfl
   simp only [List.drop_succ_cons,List.drop_zero]
   refine zF ?_
   refine zH (fun hc'=>?_) (fun hc'=>?_)
   ·replace h0':=(ifT hc').symm.trans h0'
    refine zB ?_
    refine zA ?_
    refine ops H' ?_
    refine zF ?_
    refine zN ?_
    obtain rfl:=zso h0'
    exact zP H' rfl rfl
   ·replace h0':=(ifF hc').symm.trans h0'
    refine zM ?_
    refine zU (fun e'=>spec_PathOk_j1=some r'∧e'=⟨73,1,1,[],[]⟩) ?_ ?_
    ·refine zB ?_
     refine zA ?_
     refine ops H' ?_
     refine zF ?_
     obtain ⟨p,hl',h0'⟩:=zbi h0'
     refine zI ?_
     refine zR (fun i e'=>e'=⟨73,1,1,[(0,.pl (.one (.v (.sc (.string path))))),(3,.pl (.one (.v (.sc (.int .i64 (path.size:Int)))))),(4,.pl (.one (.v (.sc (.int .i64 i)))))],[]⟩) hl' (shd [0,3,4] [] 1 rfl) ?_
     rintro i y1' e' h1' rfl
     replace h1':spec_PathOk_l1 path i=some y1':=h1'
     unfold spec_PathOk_l1 at h1'
     refine zB ?_
     refine zB ?_
     refine zA ?_
     refine ops H' ?_
     refine zF ?_
     refine zH (fun hc'=>?_) (fun hc'=>?_)
     ·replace h1':=(ifT hc').symm.trans h1'
      refine zM ?_
      refine zB ?_
      refine zI ?_
      refine zB ?_
      refine zA ?_
      obtain ⟨x30,hv',h1'⟩:=zbi h1'
      have H':=And.intro (sidx_f hv') H'
      refine ops H' ?_
      refine zF ?_
      refine zB ?_
      refine zA ?_
      refine ops H' ?_
      obtain ⟨b_2,gh1',h1'⟩:=zbi h1'
      refine qE 3 (fun e'=>e'=⟨73,1,1,[(0,.pl (.one (.v (.sc (.string path))))),(3,.pl (.one (.v (.sc (.int .i64 (path.size:Int)))))),(4,.pl (.one (.v (.sc (.int .i64 i))))),(5,.pl (.one (.v (.sc (.int .u8 x30))))),(36,.pl (.one (.v (.sc (.bool b_2)))))],[]⟩) ?_ ?_
      ·simp only [List.take_succ_cons,List.take_zero]
       refine qI (fun hc'=>?_) (fun hc'=>?_)
       ·replace gh1':=(ifT hc').symm.trans gh1'
        refine ops H' ?_
        obtain rfl:=zso gh1'
        refine zG ?_
        exact ⟨rfl,shd [0,3,4,5,36] [] 1 rfl⟩
       ·replace gh1':=(ifF hc').symm.trans gh1'
        refine ops H' ?_
        obtain rfl:=zso gh1'
        refine zG ?_
        exact ⟨rfl,shd [0,3,4,5,36] [] 1 rfl⟩
      ·rintro e' rfl
       simp only [List.drop_succ_cons,List.drop_zero]
       refine ops H' ?_
       obtain ⟨b_3,gh1',h1'⟩:=zbi h1'
       refine qE 7 (fun e'=>e'=⟨73,1,1,[(0,.pl (.one (.v (.sc (.string path))))),(3,.pl (.one (.v (.sc (.int .i64 (path.size:Int)))))),(4,.pl (.one (.v (.sc (.int .i64 i))))),(5,.pl (.one (.v (.sc (.int .u8 x30))))),(44,.pl (.one (.v (.sc (.bool b_3)))))],[]⟩) ?_ ?_
       ·simp only [List.take_succ_cons,List.take_zero]
        refine qI (fun hc'=>?_) (fun hc'=>?_)
        ·replace gh1':=(ifF hc').symm.trans gh1'
         refine ops H' ?_
         obtain ⟨b_4,ggh1',gh1'⟩:=zbi gh1'
         refine qE 3 (fun e'=>e'=⟨73,1,1,[(0,.pl (.one (.v (.sc (.string path))))),(3,.pl (.one (.v (.sc (.int .i64 (path.size:Int)))))),(4,.pl (.one (.v (.sc (.int .i64 i))))),(5,.pl (.one (.v (.sc (.int .u8 x30))))),(37,.pl (.one (.v (.sc (.bool false))))),(38,.pl (.one (.v (.sc (.int .u8 x30))))),(39,.pl (.one (.v (.sc (.bool (decide (x30≥48))))))),(43,.pl (.one (.v (.sc (.bool b_4)))))],[]⟩) ?_ ?_
         ·simp only [List.take_succ_cons,List.take_zero]
          refine qI (fun hc'=>?_) (fun hc'=>?_)
          ·replace ggh1':=(ifT hc').symm.trans ggh1'
           refine ops H' ?_
           obtain rfl:=zso ggh1'
           refine zG ?_
           exact ⟨rfl,shd [0,3,4,5,37,38,39,43] [] 1 rfl⟩
          ·replace ggh1':=(ifF hc').symm.trans ggh1'
           refine ops H' ?_
           obtain rfl:=zso ggh1'
           refine zG ?_
           exact ⟨rfl,shd [0,3,4,5,37,38,39,43] [] 1 rfl⟩
         ·rintro e' rfl
          simp only [List.drop_succ_cons,List.drop_zero]
          refine ops H' ?_
          obtain rfl:=zso gh1'
          refine zG ?_
          exact ⟨rfl,shd [0,3,4,5,44] [] 1 rfl⟩
        ·replace gh1':=(ifT hc').symm.trans gh1'
         refine ops H' ?_
         obtain rfl:=zso gh1'
         refine zG ?_
         exact ⟨rfl,shd [0,3,4,5,44] [] 1 rfl⟩
       ·rintro e' rfl
        simp only [List.drop_succ_cons,List.drop_zero]
        refine ops H' ?_
        obtain ⟨b_5,gh1',h1'⟩:=zbi h1'
        refine qE 3 (fun e'=>e'=⟨73,1,1,[(0,.pl (.one (.v (.sc (.string path))))),(3,.pl (.one (.v (.sc (.int .i64 (path.size:Int)))))),(4,.pl (.one (.v (.sc (.int .i64 i))))),(5,.pl (.one (.v (.sc (.int .u8 x30))))),(48,.pl (.one (.v (.sc (.bool b_5)))))],[]⟩) ?_ ?_
        ·simp only [List.take_succ_cons,List.take_zero]
         refine qI (fun hc'=>?_) (fun hc'=>?_)
         ·replace gh1':=(ifF hc').symm.trans gh1'
          refine ops H' ?_
          obtain rfl:=zso gh1'
          refine zG ?_
          exact ⟨rfl,shd [0,3,4,5,48] [] 1 rfl⟩
         ·replace gh1':=(ifT hc').symm.trans gh1'
          refine ops H' ?_
          obtain rfl:=zso gh1'
          refine zG ?_
          exact ⟨rfl,shd [0,3,4,5,48] [] 1 rfl⟩
        ·rintro e' rfl
         simp only [List.drop_succ_cons,List.drop_zero]
         refine ops H' ?_
         obtain ⟨b_6,gh1',h1'⟩:=zbi h1'
         refine qE 3 (fun e'=>e'=⟨73,1,1,[(0,.pl (.one (.v (.sc (.string path))))),(3,.pl (.one (.v (.sc (.int .i64 (path.size:Int)))))),(4,.pl (.one (.v (.sc (.int .i64 i))))),(5,.pl (.one (.v (.sc (.int .u8 x30))))),(52,.pl (.one (.v (.sc (.bool b_6)))))],[]⟩) ?_ ?_
         ·simp only [List.take_succ_cons,List.take_zero]
          refine qI (fun hc'=>?_) (fun hc'=>?_)
          ·replace gh1':=(ifF hc').symm.trans gh1'
           refine ops H' ?_
           obtain rfl:=zso gh1'
           refine zG ?_
           exact ⟨rfl,shd [0,3,4,5,52] [] 1 rfl⟩
          ·replace gh1':=(ifT hc').symm.trans gh1'
           refine ops H' ?_
           obtain rfl:=zso gh1'
           refine zG ?_
           exact ⟨rfl,shd [0,3,4,5,52] [] 1 rfl⟩
         ·rintro e' rfl
          simp only [List.drop_succ_cons,List.drop_zero]
          refine ops H' ?_
          obtain ⟨b_7,gh1',h1'⟩:=zbi h1'
          refine qE 3 (fun e'=>e'=⟨73,1,1,[(0,.pl (.one (.v (.sc (.string path))))),(3,.pl (.one (.v (.sc (.int .i64 (path.size:Int)))))),(4,.pl (.one (.v (.sc (.int .i64 i))))),(5,.pl (.one (.v (.sc (.int .u8 x30))))),(56,.pl (.one (.v (.sc (.bool b_7)))))],[]⟩) ?_ ?_
          ·simp only [List.take_succ_cons,List.take_zero]
           refine qI (fun hc'=>?_) (fun hc'=>?_)
           ·replace gh1':=(ifF hc').symm.trans gh1'
            refine ops H' ?_
            obtain rfl:=zso gh1'
            refine zG ?_
            exact ⟨rfl,shd [0,3,4,5,56] [] 1 rfl⟩
           ·replace gh1':=(ifT hc').symm.trans gh1'
            refine ops H' ?_
            obtain rfl:=zso gh1'
            refine zG ?_
            exact ⟨rfl,shd [0,3,4,5,56] [] 1 rfl⟩
          ·rintro e' rfl
           simp only [List.drop_succ_cons,List.drop_zero]
           refine ops H' ?_
           obtain ⟨b_8,gh1',h1'⟩:=zbi h1'
           refine qE 14 (fun e'=>e'=⟨73,1,1,[(0,.pl (.one (.v (.sc (.string path))))),(3,.pl (.one (.v (.sc (.int .i64 (path.size:Int)))))),(4,.pl (.one (.v (.sc (.int .i64 i))))),(72,.pl (.one (.v (.sc (.bool b_8)))))],[]⟩) ?_ ?_
           ·simp only [List.take_succ_cons,List.take_zero]
            refine qI (fun hc'=>?_) (fun hc'=>?_)
            ·replace gh1':=(ifF hc').symm.trans gh1'
             refine ops H' ?_
             obtain ⟨b_9,ggh1',gh1'⟩:=zbi gh1'
             refine qE 3 (fun e'=>e'=⟨73,1,1,[(0,.pl (.one (.v (.sc (.string path))))),(3,.pl (.one (.v (.sc (.int .i64 (path.size:Int)))))),(4,.pl (.one (.v (.sc (.int .i64 i))))),(58,.pl (.one (.v (.sc (.bool false))))),(59,.pl (.one (.v (.sc (.int .i64 i))))),(60,.pl (.one (.v (.sc (.bool (decide (i > 0))))))),(64,.pl (.one (.v (.sc (.bool b_9)))))],[]⟩) ?_ ?_
             ·simp only [List.take_succ_cons,List.take_zero]
              refine qI (fun hc'=>?_) (fun hc'=>?_)
              ·replace ggh1':=(ifT hc').symm.trans ggh1'
               refine ops H' ?_
               obtain rfl:=zso ggh1'
               refine zG ?_
               exact ⟨rfl,shd [0,3,4,58,59,60,64] [] 1 rfl⟩
              ·replace ggh1':=(ifF hc').symm.trans ggh1'
               refine ops H' ?_
               obtain rfl:=zso ggh1'
               refine zG ?_
               exact ⟨rfl,shd [0,3,4,58,59,60,64] [] 1 rfl⟩
             ·rintro e' rfl
              simp only [List.drop_succ_cons,List.drop_zero]
              refine ops H' ?_
              obtain ⟨b_10,ggh1',gh1'⟩:=zbi gh1'
              refine qE 6 (fun e'=>e'=⟨73,1,1,[(0,.pl (.one (.v (.sc (.string path))))),(3,.pl (.one (.v (.sc (.int .i64 (path.size:Int)))))),(4,.pl (.one (.v (.sc (.int .i64 i))))),(58,.pl (.one (.v (.sc (.bool false))))),(59,.pl (.one (.v (.sc (.int .i64 i))))),(60,.pl (.one (.v (.sc (.bool (decide (i > 0))))))),(64,.pl (.one (.v (.sc (.bool b_9))))),(71,.pl (.one (.v (.sc (.bool b_10)))))],[]⟩) ?_ ?_
              ·simp only [List.take_succ_cons,List.take_zero]
               refine qI (fun hc'=>?_) (fun hc'=>?_)
               ·replace ggh1':=(ifT hc').symm.trans ggh1'
                obtain ⟨x69,hv',ggh1'⟩:=zbi ggh1'
                have H':=And.intro (sidx_f hv') H'
                refine ops H' ?_
                obtain rfl:=zso ggh1'
                refine zG ?_
                exact ⟨rfl,shd [0,3,4,58,59,60,64,71] [] 1 rfl⟩
               ·replace ggh1':=(ifF hc').symm.trans ggh1'
                refine ops H' ?_
                obtain rfl:=zso ggh1'
                refine zG ?_
                exact ⟨rfl,shd [0,3,4,58,59,60,64,71] [] 1 rfl⟩
              ·rintro e' rfl
               simp only [List.drop_succ_cons,List.drop_zero]
               refine ops H' ?_
               obtain rfl:=zso gh1'
               refine zG ?_
               exact ⟨rfl,shd [0,3,4,72] [] 1 rfl⟩
            ·replace gh1':=(ifT hc').symm.trans gh1'
             refine ops H' ?_
             obtain rfl:=zso gh1'
             refine zG ?_
             exact ⟨rfl,shd [0,3,4,72] [] 1 rfl⟩
           ·rintro e' rfl
            simp only [List.drop_succ_cons,List.drop_zero]
            refine zF ?_
            refine zH (fun hc'=>?_) (fun hc'=>?_)
            ·replace h1':=(ifT hc').symm.trans h1'
             refine zB ?_
             refine zA ?_
             refine ops H' ?_
             refine zF ?_
             refine zN ?_
             obtain rfl:=zso h1'
             refine ⟨_,rfl,fun hr'=>?_⟩
             subst hr'
             obtain rfl:=zso h0'
             exact zP H' rfl rfl
            ·replace h1':=(ifF hc').symm.trans h1'
             refine zM ?_
             refine zA ?_
             refine ops H' ?_
             refine zF ?_
             obtain rfl:=zso h1'
             exact shd [0,3,4] [] 1 ⟨_,rfl,rfl⟩
     ·replace h1':=(ifF hc').symm.trans h1'
      refine qJ ?_
      obtain rfl:=zso h1'
      refine ⟨_,rfl,fun hr'=>?_⟩
      subst hr'
      exact shd [] [] 1 ⟨h0',rfl⟩
    ·rintro e' ⟨h0',rfl⟩
     unfold spec_PathOk_j1 at h0'
     refine zB ?_
     refine zA ?_
     refine ops H' ?_
     refine zF ?_
     refine zN ?_
     obtain rfl:=zso h0'
     exact zP H' rfl rfl
theorem W_spec_NamesOk (list_:List T_impl_Name) (r':Bool) (h0':spec_NamesOk list_=some r'):Fn X 164 [.one (.list false 3 (List.map (zL false) list_))] [.one (.sc (.bool r'))] []:=by
 have H':=And.intro t3 (And.intro t9 (And.intro t181 (And.intro t204 (qM))))
 unfold spec_NamesOk at h0'
 refine Fn.start (fn:=f164) (N:=63) (res:=[.tmp 2]) rfl rfl rfl rfl rfl (by simp) ?_
 refine zW H' ?_
 refine zB ?_
 refine zA ?_
 refine ops H' ?_
 refine zF ?_
 refine zB ?_
 refine zB ?_
 refine zA ?_
 refine ops H' ?_
 refine zF ?_
 refine zH (fun hc'=>?_) (fun hc'=>?_)
 ·replace h0':=(ifT hc').symm.trans h0'
  refine zB ?_
  refine zA ?_
  refine ops H' ?_
  refine zF ?_
  refine zN ?_
  obtain rfl:=zso h0'
  exact zP H' rfl rfl
 ·replace h0':=(ifF hc').symm.trans h0'
  refine zM ?_
  refine zU (fun e'=>spec_NamesOk_j1=some r'∧e'=⟨63,1,1,[],[]⟩) ?_ ?_
  ·refine zB ?_
   refine zA ?_
   refine ops H' ?_
   refine zF ?_
   obtain ⟨p,hl',h0'⟩:=zbi h0'
   refine zI ?_
   refine zR (fun i e'=>e'=⟨63,1,1,[(0,.pl (.one (.v (.list false 3 (List.map (zL false) list_))))),(3,.pl (.one (.v (.sc (.int .i64 i)))))],[]⟩) hl' (shd [0,3] [] 1 rfl) ?_
   rintro i y1' e' h1' rfl
   replace h1':spec_NamesOk_l1 list_ i=some y1':=h1'
   unfold spec_NamesOk_l1 at h1'
   refine zB ?_
   refine zB ?_
   refine zA ?_
   refine ops H' ?_
   refine zF ?_
   refine zH (fun hc'=>?_) (fun hc'=>?_)
   ·replace h1':=(ifT hc').symm.trans h1'
    refine zM ?_
    refine zU (fun e'=>spec_NamesOk_j2 i=some y1'∧e'=⟨63,1,1,[(0,.pl (.one (.v (.list false 3 (List.map (zL false) list_))))),(3,.pl (.one (.v (.sc (.int .i64 i)))))],[]⟩) ?_ ?_
    ·refine zI ?_
     refine zB ?_
     refine zA ?_
     obtain ⟨x,hv',h1'⟩:=zbi h1'
     have H':=And.intro (zS hv') H'
     refine ops H' ?_
     refine zF ?_
     refine zB ?_
     refine zB ?_
     refine regQ ?_
     refine ops H' ?_
     obtain ⟨x21,hy',h1'⟩:=zbi h1'
     refine callGQ H' (W_spec_PathOk _ _ hy') ?_
     refine ops H' ?_
     obtain ⟨b,gh1',h1'⟩:=zbi h1'
     refine quV_cut 14 (fun e'=>e'=⟨63,1,2,[(0,.pl (.one (.v (.list false 3 (List.map (zL false) list_))))),(3,.pl (.one (.v (.sc (.int .i64 i))))),(4,.pl (.one (.ref 1 []))),(37,.pl (.one (.v (.sc (.bool b)))))],[(1,.box true [.sc (.string x.Path),.sc (.int .i64 x.Id),.sc (.int .i64 x.Version)])]⟩) ?_ ?_
     ·simp only [List.take_succ_cons,List.take_zero]
      refine quV_sp (fun hc'=>?_) (fun hc'=>?_)
      ·replace gh1':=(ifF hc').symm.trans gh1'
       refine ops H' ?_
       obtain ⟨b_1,ggh1',gh1'⟩:=zbi gh1'
       refine quV_cut 10 (fun e'=>e'=⟨63,1,2,[(0,.pl (.one (.v (.list false 3 (List.map (zL false) list_))))),(3,.pl (.one (.v (.sc (.int .i64 i))))),(4,.pl (.one (.ref 1 []))),(23,.pl (.one (.v (.sc (.bool false))))),(24,.pl (.one (.v (.sc (.int .i64 i))))),(25,.pl (.one (.v (.sc (.bool (decide (i > 0))))))),(36,.pl (.one (.v (.sc (.bool b_1)))))],[(1,.box true [.sc (.string x.Path),.sc (.int .i64 x.Id),.sc (.int .i64 x.Version)])]⟩) ?_ ?_
       ·simp only [List.take_succ_cons,List.take_zero]
        refine quV_sp (fun hc'=>?_) (fun hc'=>?_)
        ·replace ggh1':=(ifT hc').symm.trans ggh1'
         obtain ⟨x_1,hv',ggh1'⟩:=zbi ggh1'
         have H':=And.intro (zS hv') H'
         refine ops H' ?_
         obtain rfl:=zso ggh1'
         refine qQ ?_
         exact ⟨rfl,shd [0,3,4,23,24,25,36] [(1,1)] 2 rfl⟩
        ·replace ggh1':=(ifF hc').symm.trans ggh1'
         refine ops H' ?_
         obtain rfl:=zso ggh1'
         refine qQ ?_
         exact ⟨rfl,shd [0,3,4,23,24,25,36] [(1,1)] 2 rfl⟩
       ·rintro e' rfl
        simp only [List.drop_succ_cons,List.drop_zero]
        refine ops H' ?_
        obtain rfl:=zso gh1'
        refine qQ ?_
        exact ⟨rfl,shd [0,3,4,37] [(1,1)] 2 rfl⟩
      ·replace gh1':=(ifT hc').symm.trans gh1'
       refine ops H' ?_
       obtain rfl:=zso gh1'
       refine qQ ?_
       exact ⟨rfl,shd [0,3,4,37] [(1,1)] 2 rfl⟩
     ·rintro e' rfl
      simp only [List.drop_succ_cons,List.drop_zero]
      refine ops H' ?_
      obtain ⟨b_2,gh1',h1'⟩:=zbi h1'
      refine quV_cut 5 (fun e'=>e'=⟨63,1,2,[(0,.pl (.one (.v (.list false 3 (List.map (zL false) list_))))),(3,.pl (.one (.v (.sc (.int .i64 i))))),(4,.pl (.one (.ref 1 []))),(43,.pl (.one (.v (.sc (.bool b_2)))))],[(1,.box true [.sc (.string x.Path),.sc (.int .i64 x.Id),.sc (.int .i64 x.Version)])]⟩) ?_ ?_
      ·simp only [List.take_succ_cons,List.take_zero]
       refine quV_sp (fun hc'=>?_) (fun hc'=>?_)
       ·replace gh1':=(ifF hc').symm.trans gh1'
        refine ops H' ?_
        obtain ⟨x41,hy',gh1'⟩:=zbi gh1'
        refine callGQ H' (W_spec_l01In _ _ _ _ hy') ?_
        refine ops H' ?_
        obtain rfl:=zso gh1'
        refine qQ ?_
        exact ⟨rfl,shd [0,3,4,43] [(1,1)] 2 rfl⟩
       ·replace gh1':=(ifT hc').symm.trans gh1'
        refine ops H' ?_
        obtain rfl:=zso gh1'
        refine qQ ?_
        exact ⟨rfl,shd [0,3,4,43] [(1,1)] 2 rfl⟩
      ·rintro e' rfl
       simp only [List.drop_succ_cons,List.drop_zero]
       refine ops H' ?_
       obtain ⟨b_3,gh1',h1'⟩:=zbi h1'
       refine quV_cut 5 (fun e'=>e'=⟨63,1,2,[(0,.pl (.one (.v (.list false 3 (List.map (zL false) list_))))),(3,.pl (.one (.v (.sc (.int .i64 i))))),(4,.pl (.one (.ref 1 []))),(49,.pl (.one (.v (.sc (.bool b_3)))))],[(1,.box true [.sc (.string x.Path),.sc (.int .i64 x.Id),.sc (.int .i64 x.Version)])]⟩) ?_ ?_
       ·simp only [List.take_succ_cons,List.take_zero]
        refine quV_sp (fun hc'=>?_) (fun hc'=>?_)
        ·replace gh1':=(ifF hc').symm.trans gh1'
         refine ops H' ?_
         obtain ⟨x47,hy',gh1'⟩:=zbi gh1'
         refine callGQ H' (W_spec_l01In _ _ _ _ hy') ?_
         refine ops H' ?_
         obtain rfl:=zso gh1'
         refine qQ ?_
         exact ⟨rfl,shd [0,3,4,49] [(1,1)] 2 rfl⟩
        ·replace gh1':=(ifT hc').symm.trans gh1'
         refine ops H' ?_
         obtain rfl:=zso gh1'
         refine qQ ?_
         exact ⟨rfl,shd [0,3,4,49] [(1,1)] 2 rfl⟩
       ·rintro e' rfl
        simp only [List.drop_succ_cons,List.drop_zero]
        refine quN ?_
        refine zH (fun hc'=>?_) (fun hc'=>?_)
        ·replace h1':=(ifT hc').symm.trans h1'
         refine zB ?_
         refine zA ?_
         refine ops H' ?_
         refine zF ?_
         refine zN ?_
         obtain rfl:=zso h1'
         refine ⟨_,rfl,fun hr'=>?_⟩
         subst hr'
         obtain rfl:=zso h0'
         exact zP H' rfl rfl
        ·replace h1':=(ifF hc').symm.trans h1'
         refine zM ?_
         refine zB ?_
         refine zA ?_
         refine ops H' ?_
         refine zF ?_
         obtain ⟨p_1,hl',h1'⟩:=zbi h1'
         refine zI ?_
         refine zR (fun k e'=>e'=⟨63,1,2,[(0,.pl (.one (.v (.list false 3 (List.map (zL false) list_))))),(3,.pl (.one (.v (.sc (.int .i64 i))))),(4,.pl (.one (.ref 1 []))),(5,.pl (.one (.v (.sc (.int .i64 k)))))],[(1,.box true [.sc (.string x.Path),.sc (.int .i64 x.Id),.sc (.int .i64 x.Version)])]⟩) hl' (shd [0,3,4,5] [(1,1)] 2 rfl) ?_
         rintro k y2' e' h2' rfl
         replace h2':spec_NamesOk_l2 list_ i x k=some y2':=h2'
         unfold spec_NamesOk_l2 at h2'
         refine zB ?_
         refine zB ?_
         refine zA ?_
         refine ops H' ?_
         refine zF ?_
         refine zH (fun hc'=>?_) (fun hc'=>?_)
         ·replace h2':=(ifT hc').symm.trans h2'
          refine zM ?_
          refine zB ?_
          refine zI ?_
          refine zB ?_
          refine regQ ?_
          obtain ⟨x_2,hv',h2'⟩:=zbi h2'
          have H':=And.intro (zS hv') H'
          refine ops H' ?_
          refine quN ?_
          refine zH (fun hc'=>?_) (fun hc'=>?_)
          ·replace h2':=(ifT hc').symm.trans h2'
           refine zB ?_
           refine zA ?_
           refine ops H' ?_
           refine zF ?_
           refine zN ?_
           obtain rfl:=zso h2'
           refine ⟨_,rfl,fun hr'=>?_⟩
           subst hr'
           obtain rfl:=zso h1'
           refine ⟨_,rfl,fun hr'=>?_⟩
           subst hr'
           obtain rfl:=zso h0'
           exact zP H' rfl rfl
          ·replace h2':=(ifF hc').symm.trans h2'
           refine zM ?_
           refine zA ?_
           refine ops H' ?_
           refine zF ?_
           obtain rfl:=zso h2'
           exact shd [0,3,4,5] [(1,1)] 2 ⟨_,rfl,rfl⟩
         ·replace h2':=(ifF hc').symm.trans h2'
          refine qJ ?_
          obtain rfl:=zso h2'
          refine ⟨_,rfl,fun hr'=>?_⟩
          subst hr'
          exact shd [0,3] [] 1 ⟨h1',rfl⟩
    ·rintro e' ⟨h1',rfl⟩
     unfold spec_NamesOk_j2 at h1'
     refine zA ?_
     refine ops H' ?_
     refine zF ?_
     obtain rfl:=zso h1'
     exact shd [0,3] [] 1 ⟨_,rfl,rfl⟩
   ·replace h1':=(ifF hc').symm.trans h1'
    refine qJ ?_
    obtain rfl:=zso h1'
    refine ⟨_,rfl,fun hr'=>?_⟩
    subst hr'
    exact shd [] [] 1 ⟨h0',rfl⟩
  ·rintro e' ⟨h0',rfl⟩
   unfold spec_NamesOk_j1 at h0'
   refine zB ?_
   refine zA ?_
   refine ops H' ?_
   refine zF ?_
   refine zN ?_
   obtain rfl:=zso h0'
   exact zP H' rfl rfl
theorem W_spec_CommitsOk (list_:List T_impl_Commit) (versions:List Int) (r':Bool) (h0':spec_CommitsOk list_ versions=some r'):Fn X 136 [.one (.list false 3 (List.map (zD false) list_)),.one (.list false 1 (List.map (rK .i64) versions))] [.one (.sc (.bool r'))] []:=by
 have H':=And.intro t3 (And.intro t9 (And.intro t43 (And.intro t60 (And.intro t181 (And.intro t183 (And.intro t204 (And.intro R_Li64 (And.intro qP (And.intro qM (R_i64))))))))))
 unfold spec_CommitsOk at h0'
 refine Fn.start (fn:=f136) (N:=90) (res:=[.tmp 4]) rfl rfl rfl rfl rfl (by simp) ?_
 refine zW H' ?_
 refine zB ?_
 refine zA ?_
 refine ops H' ?_
 refine zF ?_
 refine zB ?_
 refine zB ?_
 refine zA ?_
 refine ops H' ?_
 obtain ⟨b,gh0',h0'⟩:=zbi h0'
 refine qE 4 (fun e'=>e'=⟨90,2,2,[(0,.pl (.one (.v (.list false 3 (List.map (zD false) list_))))),(1,.pl (.one (.v (.list false 1 (List.map (rK .i64) versions))))),(16,.pl (.one (.v (.sc (.bool b)))))],[]⟩) ?_ ?_
 ·simp only [List.take_succ_cons,List.take_zero]
  refine qI (fun hc'=>?_) (fun hc'=>?_)
  ·replace gh0':=(ifF hc').symm.trans gh0'
   refine ops H' ?_
   obtain rfl:=zso gh0'
   refine zG ?_
   exact ⟨rfl,shd [0,1,16] [] 2 rfl⟩
  ·replace gh0':=(ifT hc').symm.trans gh0'
   refine ops H' ?_
   obtain rfl:=zso gh0'
   refine zG ?_
   exact ⟨rfl,shd [0,1,16] [] 2 rfl⟩
 ·rintro e' rfl
  simp only [List.drop_succ_cons,List.drop_zero]
  refine ops H' ?_
  obtain ⟨b_1,gh0',h0'⟩:=zbi h0'
  refine qE 5 (fun e'=>e'=⟨90,2,2,[(0,.pl (.one (.v (.list false 3 (List.map (zD false) list_))))),(1,.pl (.one (.v (.list false 1 (List.map (rK .i64) versions))))),(22,.pl (.one (.v (.sc (.bool b_1)))))],[]⟩) ?_ ?_
  ·simp only [List.take_succ_cons,List.take_zero]
   refine qI (fun hc'=>?_) (fun hc'=>?_)
   ·replace gh0':=(ifF hc').symm.trans gh0'
    refine ops H' ?_
    obtain ⟨x19,hy',gh0'⟩:=zbi gh0'
    refine callGD H' (fun _=>[]) (W_spec_l14Graph _ _ hy') ?_
    refine ops H' ?_
    obtain ⟨x20,hy',gh0'⟩:=zbi gh0'
    refine zY H' (fun _=>[]) (W_spec_GraphOk _ _ hy') ?_
    refine ops H' ?_
    obtain rfl:=zso gh0'
    refine zG ?_
    exact ⟨rfl,shd [0,1,22] [] 2 rfl⟩
   ·replace gh0':=(ifT hc').symm.trans gh0'
    refine ops H' ?_
    obtain rfl:=zso gh0'
    refine zG ?_
    exact ⟨rfl,shd [0,1,22] [] 2 rfl⟩
  ·rintro e' rfl
   simp only [List.drop_succ_cons,List.drop_zero]
   refine zF ?_
   refine zH (fun hc'=>?_) (fun hc'=>?_)
   ·replace h0':=(ifT hc').symm.trans h0'
    refine zB ?_
    refine zA ?_
    refine ops H' ?_
    refine zF ?_
    refine zN ?_
    obtain rfl:=zso h0'
    exact zP H' rfl rfl
   ·replace h0':=(ifF hc').symm.trans h0'
    refine zM ?_
    refine zU (fun e'=>spec_CommitsOk_j1 list_ versions=some r'∧e'=⟨90,2,2,[(0,.pl (.one (.v (.list false 3 (List.map (zD false) list_))))),(1,.pl (.one (.v (.list false 1 (List.map (rK .i64) versions)))))],[]⟩) ?_ ?_
    ·refine zB ?_
     refine zA ?_
     refine ops H' ?_
     refine zF ?_
     obtain ⟨p_2,hl',h0'⟩:=zbi h0'
     refine zI ?_
     refine zR (fun i_1 e'=>e'=⟨90,2,2,[(0,.pl (.one (.v (.list false 3 (List.map (zD false) list_))))),(1,.pl (.one (.v (.list false 1 (List.map (rK .i64) versions))))),(5,.pl (.one (.v (.sc (.int .i64 i_1)))))],[]⟩) hl' (shd [0,1,5] [] 2 rfl) ?_
     rintro i_1 y1' e' h1' rfl
     replace h1':spec_CommitsOk_l3 versions i_1=some y1':=h1'
     unfold spec_CommitsOk_l3 at h1'
     refine zB ?_
     refine zB ?_
     refine zA ?_
     refine ops H' ?_
     refine zF ?_
     refine zH (fun hc'=>?_) (fun hc'=>?_)
     ·replace h1':=(ifT hc').symm.trans h1'
      refine zM ?_
      refine zB ?_
      refine zI ?_
      refine zB ?_
      refine zA ?_
      obtain ⟨x_4,hv',h1'⟩:=zbi h1'
      have H':=And.intro (zS hv') H'
      refine ops H' ?_
      obtain ⟨x33,hy',h1'⟩:=zbi h1'
      refine zY H' (fun _=>[]) (W_spec_l01In _ _ _ _ hy') ?_
      refine ops H' ?_
      refine zF ?_
      refine zH (fun hc'=>?_) (fun hc'=>?_)
      ·replace h1':=(ifT hc').symm.trans h1'
       refine zB ?_
       refine zA ?_
       refine ops H' ?_
       refine zF ?_
       refine zN ?_
       obtain rfl:=zso h1'
       refine ⟨_,rfl,fun hr'=>?_⟩
       subst hr'
       obtain rfl:=zso h0'
       exact zP H' rfl rfl
      ·replace h1':=(ifF hc').symm.trans h1'
       refine zM ?_
       refine zA ?_
       refine ops H' ?_
       refine zF ?_
       obtain rfl:=zso h1'
       exact shd [0,1,5] [] 2 ⟨_,rfl,rfl⟩
     ·replace h1':=(ifF hc').symm.trans h1'
      refine qJ ?_
      obtain rfl:=zso h1'
      refine ⟨_,rfl,fun hr'=>?_⟩
      subst hr'
      exact shd [0,1] [] 2 ⟨h0',rfl⟩
    ·rintro e' ⟨h0',rfl⟩
     unfold spec_CommitsOk_j1 at h0'
     refine zU (fun e'=>spec_CommitsOk_j2=some r'∧e'=⟨90,2,2,[],[]⟩) ?_ ?_
     ·refine zB ?_
      refine zA ?_
      refine ops H' ?_
      refine zF ?_
      obtain ⟨p,hl',h0'⟩:=zbi h0'
      refine zI ?_
      refine zR (fun i e'=>e'=⟨90,2,2,[(0,.pl (.one (.v (.list false 3 (List.map (zD false) list_))))),(1,.pl (.one (.v (.list false 1 (List.map (rK .i64) versions))))),(6,.pl (.one (.v (.sc (.int .i64 i)))))],[]⟩) hl' (shd [0,1,6] [] 2 rfl) ?_
      rintro i y1' e' h1' rfl
      replace h1':spec_CommitsOk_l1 list_ versions i=some y1':=h1'
      unfold spec_CommitsOk_l1 at h1'
      refine zB ?_
      refine zB ?_
      refine zA ?_
      refine ops H' ?_
      refine zF ?_
      refine zH (fun hc'=>?_) (fun hc'=>?_)
      ·replace h1':=(ifT hc').symm.trans h1'
       refine zM ?_
       refine zU (fun e'=>spec_CommitsOk_j3 i=some y1'∧e'=⟨90,2,2,[(0,.pl (.one (.v (.list false 3 (List.map (zD false) list_))))),(1,.pl (.one (.v (.list false 1 (List.map (rK .i64) versions))))),(6,.pl (.one (.v (.sc (.int .i64 i)))))],[]⟩) ?_ ?_
       ·refine zI ?_
        refine zB ?_
        refine zB ?_
        refine zA ?_
        obtain ⟨x,hv',h1'⟩:=zbi h1'
        have H':=And.intro (zS hv') H'
        refine ops H' ?_
        obtain ⟨x46,hy',h1'⟩:=zbi h1'
        refine zY H' (fun _=>[]) (W_spec_NoteOk _ _ hy') ?_
        refine ops H' ?_
        obtain ⟨b_2,gh1',h1'⟩:=zbi h1'
        refine qE 8 (fun e'=>e'=⟨90,2,2,[(0,.pl (.one (.v (.list false 3 (List.map (zD false) list_))))),(1,.pl (.one (.v (.list false 1 (List.map (rK .i64) versions))))),(6,.pl (.one (.v (.sc (.int .i64 i))))),(56,.pl (.one (.v (.sc (.bool b_2)))))],[]⟩) ?_ ?_
        ·simp only [List.take_succ_cons,List.take_zero]
         refine qI (fun hc'=>?_) (fun hc'=>?_)
         ·replace gh1':=(ifF hc').symm.trans gh1'
          refine ops H' ?_
          obtain ⟨x54,hy',gh1'⟩:=zbi gh1'
          refine zY H' (fun _=>[]) (W_spec_NamesOk _ _ hy') ?_
          refine ops H' ?_
          obtain rfl:=zso gh1'
          refine zG ?_
          exact ⟨rfl,shd [0,1,6,56] [] 2 rfl⟩
         ·replace gh1':=(ifT hc').symm.trans gh1'
          refine ops H' ?_
          obtain rfl:=zso gh1'
          refine zG ?_
          exact ⟨rfl,shd [0,1,6,56] [] 2 rfl⟩
        ·rintro e' rfl
         simp only [List.drop_succ_cons,List.drop_zero]
         refine zF ?_
         refine zH (fun hc'=>?_) (fun hc'=>?_)
         ·replace h1':=(ifT hc').symm.trans h1'
          refine zB ?_
          refine zA ?_
          refine ops H' ?_
          refine zF ?_
          refine zN ?_
          obtain rfl:=zso h1'
          refine ⟨_,rfl,fun hr'=>?_⟩
          subst hr'
          obtain rfl:=zso h0'
          exact zP H' rfl rfl
         ·replace h1':=(ifF hc').symm.trans h1'
          refine zM ?_
          refine zB ?_
          refine zA ?_
          refine ops H' ?_
          refine zF ?_
          obtain ⟨p_1,hl',h1'⟩:=zbi h1'
          refine zI ?_
          refine zR (fun k e'=>e'=⟨90,2,2,[(0,.pl (.one (.v (.list false 3 (List.map (zD false) list_))))),(1,.pl (.one (.v (.list false 1 (List.map (rK .i64) versions))))),(6,.pl (.one (.v (.sc (.int .i64 i))))),(7,.pl (.one (.v (.sc (.int .i64 k)))))],[]⟩) hl' (shd [0,1,6,7] [] 2 rfl) ?_
          rintro k y2' e' h2' rfl
          replace h2':spec_CommitsOk_l2 list_ versions i k=some y2':=h2'
          unfold spec_CommitsOk_l2 at h2'
          refine zB ?_
          refine zB ?_
          refine zA ?_
          obtain ⟨x_1,hv',h2'⟩:=zbi h2'
          have H':=And.intro (zS hv') H'
          refine ops H' ?_
          refine zF ?_
          refine zH (fun hc'=>?_) (fun hc'=>?_)
          ·replace h2':=(ifT hc').symm.trans h2'
           refine zM ?_
           refine zB ?_
           refine zI ?_
           refine zB ?_
           refine zA ?_
           obtain ⟨x_2,hv',h2'⟩:=zbi h2'
           have H':=And.intro (zS hv') H'
           refine ops H' ?_
           refine zF ?_
           refine zB ?_
           refine regQ ?_
           refine ops H' ?_
           obtain ⟨b_3,gh2',h2'⟩:=zbi h2'
           refine quV_cut 9 (fun e'=>e'=⟨90,2,2,[(0,.pl (.one (.v (.list false 3 (List.map (zD false) list_))))),(1,.pl (.one (.v (.list false 1 (List.map (rK .i64) versions))))),(6,.pl (.one (.v (.sc (.int .i64 i))))),(7,.pl (.one (.v (.sc (.int .i64 k))))),(89,.pl (.one (.v (.sc (.bool b_3)))))],[]⟩) ?_ ?_
           ·simp only [List.take_succ_cons,List.take_zero]
            refine quV_sp (fun hc'=>?_) (fun hc'=>?_)
            ·replace gh2':=(ifF hc').symm.trans gh2'
             obtain ⟨x_3,hv',gh2'⟩:=zbi gh2'
             have H':=And.intro (zS hv') H'
             refine ops H' ?_
             obtain rfl:=zso gh2'
             refine qQ ?_
             exact ⟨rfl,shd [0,1,6,7,89] [] 2 rfl⟩
            ·replace gh2':=(ifT hc').symm.trans gh2'
             refine ops H' ?_
             obtain rfl:=zso gh2'
             refine qQ ?_
             exact ⟨rfl,shd [0,1,6,7,89] [] 2 rfl⟩
           ·rintro e' rfl
            simp only [List.drop_succ_cons,List.drop_zero]
            refine quN ?_
            refine zH (fun hc'=>?_) (fun hc'=>?_)
            ·replace h2':=(ifT hc').symm.trans h2'
             refine zB ?_
             refine zA ?_
             refine ops H' ?_
             refine zF ?_
             refine zN ?_
             obtain rfl:=zso h2'
             refine ⟨_,rfl,fun hr'=>?_⟩
             subst hr'
             obtain rfl:=zso h1'
             refine ⟨_,rfl,fun hr'=>?_⟩
             subst hr'
             obtain rfl:=zso h0'
             exact zP H' rfl rfl
            ·replace h2':=(ifF hc').symm.trans h2'
             refine zM ?_
             refine zA ?_
             refine ops H' ?_
             refine zF ?_
             obtain rfl:=zso h2'
             exact shd [0,1,6,7] [] 2 ⟨_,rfl,rfl⟩
          ·replace h2':=(ifF hc').symm.trans h2'
           refine qJ ?_
           obtain rfl:=zso h2'
           refine ⟨_,rfl,fun hr'=>?_⟩
           subst hr'
           exact shd [0,1,6] [] 2 ⟨h1',rfl⟩
       ·rintro e' ⟨h1',rfl⟩
        unfold spec_CommitsOk_j3 at h1'
        refine zA ?_
        refine ops H' ?_
        refine zF ?_
        obtain rfl:=zso h1'
        exact shd [0,1,6] [] 2 ⟨_,rfl,rfl⟩
      ·replace h1':=(ifF hc').symm.trans h1'
       refine qJ ?_
       obtain rfl:=zso h1'
       refine ⟨_,rfl,fun hr'=>?_⟩
       subst hr'
       exact shd [] [] 2 ⟨h0',rfl⟩
     ·rintro e' ⟨h0',rfl⟩
      unfold spec_CommitsOk_j2 at h0'
      refine zB ?_
      refine zA ?_
      refine ops H' ?_
      refine zF ?_
      refine zN ?_
      obtain rfl:=zso h0'
      exact zP H' rfl rfl
theorem W_spec_StoreOk (s:T_impl_Store) (r':Bool) (h0':spec_StoreOk s=some r'):Fn X 86 [.agg [.list false 3 (List.map (zD false) s.Commits),.list false 2 (List.map (zE false) s.Files)]] [.one (.sc (.bool r'))] []:=by
 have H':=And.intro t3 (And.intro t30 (And.intro t33 (And.intro t60 (And.intro t61 (And.intro t63 (And.intro R_Li64 (And.intro qK (And.intro qP (And.intro qM (And.intro jA (R_i64)))))))))))
 unfold spec_StoreOk at h0'
 refine Fn.start (fn:=f86) (N:=37) (res:=[.tmp 2]) rfl rfl rfl rfl rfl (by simp) ?_
 refine zW H' ?_
 refine zB ?_
 refine zA ?_
 refine ops H' ?_
 refine zF ?_
 refine zB ?_
 refine zB ?_
 refine zA ?_
 refine ops H' ?_
 refine zF ?_
 refine zH (fun hc'=>?_) (fun hc'=>?_)
 ·replace h0':=(ifT hc').symm.trans h0'
  refine zB ?_
  refine zA ?_
  refine ops H' ?_
  refine zF ?_
  refine zN ?_
  obtain rfl:=zso h0'
  exact zP H' rfl rfl
 ·replace h0':=(ifF hc').symm.trans h0'
  refine zM ?_
  refine zU (fun e'=>spec_StoreOk_j1 s=some r'∧e'=⟨37,2,3,[(1,.pl (.one (.ref 2 [])))],[(2,.box true [.list false 3 (List.map (zD false) s.Commits),.list false 2 (List.map (zE false) s.Files)])]⟩) ?_ ?_
  ·refine zB ?_
   refine zA ?_
   refine ops H' ?_
   refine zF ?_
   obtain ⟨p,hl',h0'⟩:=zbi h0'
   refine zI ?_
   refine zR (fun i e'=>e'=⟨37,2,3,[(1,.pl (.one (.ref 2 []))),(3,.pl (.one (.v (.sc (.int .i64 i)))))],[(2,.box true [.list false 3 (List.map (zD false) s.Commits),.list false 2 (List.map (zE false) s.Files)])]⟩) hl' (shd [1,3] [(2,2)] 3 rfl) ?_
   rintro i y1' e' h1' rfl
   replace h1':spec_StoreOk_l1 s i=some y1':=h1'
   unfold spec_StoreOk_l1 at h1'
   refine zB ?_
   refine zB ?_
   refine zA ?_
   refine ops H' ?_
   refine zF ?_
   refine zH (fun hc'=>?_) (fun hc'=>?_)
   ·replace h1':=(ifT hc').symm.trans h1'
    refine zM ?_
    refine zB ?_
    refine zI ?_
    refine zB ?_
    refine zA ?_
    obtain ⟨x,hv',h1'⟩:=zbi h1'
    have H':=And.intro (zS hv') H'
    refine ops H' ?_
    obtain ⟨x20,hy',h1'⟩:=zbi h1'
    refine zY H' (fun _=>[]) (W_spec_WeaveOk _ _ hy') ?_
    refine ops H' ?_
    obtain ⟨b,gh1',h1'⟩:=zbi h1'
    refine qE 9 (fun e'=>e'=⟨37,2,3,[(1,.pl (.one (.ref 2 []))),(3,.pl (.one (.v (.sc (.int .i64 i))))),(31,.pl (.one (.v (.sc (.bool b)))))],[(2,.box true [.list false 3 (List.map (zD false) s.Commits),.list false 2 (List.map (zE false) s.Files)])]⟩) ?_ ?_
    ·simp only [List.take_succ_cons,List.take_zero]
     refine qI (fun hc'=>?_) (fun hc'=>?_)
     ·replace gh1':=(ifF hc').symm.trans gh1'
      refine ops H' ?_
      obtain rfl:=zso gh1'
      refine zG ?_
      exact ⟨rfl,shd [1,3,31] [(2,2)] 3 rfl⟩
     ·replace gh1':=(ifT hc').symm.trans gh1'
      refine ops H' ?_
      obtain rfl:=zso gh1'
      refine zG ?_
      exact ⟨rfl,shd [1,3,31] [(2,2)] 3 rfl⟩
    ·rintro e' rfl
     simp only [List.drop_succ_cons,List.drop_zero]
     refine zF ?_
     refine zH (fun hc'=>?_) (fun hc'=>?_)
     ·replace h1':=(ifT hc').symm.trans h1'
      refine zB ?_
      refine zA ?_
      refine ops H' ?_
      refine zF ?_
      refine zN ?_
      obtain rfl:=zso h1'
      refine ⟨_,rfl,fun hr'=>?_⟩
      subst hr'
      obtain rfl:=zso h0'
      exact zP H' rfl rfl
     ·replace h1':=(ifF hc').symm.trans h1'
      refine zM ?_
      refine zA ?_
      refine ops H' ?_
      refine zF ?_
      obtain rfl:=zso h1'
      exact shd [1,3] [(2,2)] 3 ⟨_,rfl,rfl⟩
   ·replace h1':=(ifF hc').symm.trans h1'
    refine qJ ?_
    obtain rfl:=zso h1'
    refine ⟨_,rfl,fun hr'=>?_⟩
    subst hr'
    exact shd [1] [(2,2)] 3 ⟨h0',rfl⟩
  ·rintro e' ⟨h0',rfl⟩
   unfold spec_StoreOk_j1 at h0'
   refine zB ?_
   obtain ⟨x35,hy_x35,h0'⟩:=zbi h0'
   obtain ⟨x36,hy_x36,h0'⟩:=zbi h0'
   refine wpV_J (fun e'=>e'=⟨37,2,2,[(2,.pl (.one (.v (.sc (.bool x36)))))],[]⟩) ?_ ?_
   ·refine regAnyF [(1,33,.pl (.one (.v (.list false 3 (List.map (zD false) s.Commits))))),(2,34,.pl (.agg [.v (.list false 3 (List.map (zD false) s.Commits)),.v (.list false 2 (List.map (zE false) s.Files))])),(4,36,.pl (.one (.v (.sc (.bool x36))))),(5,2,.pl (.one (.v (.sc (.bool x36)))))] ?_
    refine (?_:anyF X ?ops8_0_0 _ _ ?P8_0_0 _)
    have d8_0_0_0':anyF X ?ops8_0_0 [0,2,3] [(1,33,.pl (.one (.v (.list false 3 (List.map (zD false) s.Commits))))),(4,36,.pl (.one (.v (.sc (.bool x36))))),(5,2,.pl (.one (.v (.sc (.bool x36)))))] ?P8_0_0 ⟨37,2,4,[(32,.pl (.one (.addr 2 [] 0 0 0))),(35,.pl (.one (.ref 3 [])))],[(2,.box true [.list false 3 (List.map (zD false) s.Commits),.list false 2 (List.map (zE false) s.Files)]),(3,.list true 1 (List.map (rK .i64) x35))]⟩:=by
     refine fend (e2:=⟨37,2,4,[(33,.pl (.one (.v (.list false 3 (List.map (zD false) s.Commits))))),(36,.pl (.one (.v (.sc (.bool x36))))),(2,.pl (.one (.v (.sc (.bool x36))))),(32,.pl (.one (.addr 2 [] 0 0 0))),(35,.pl (.one (.ref 3 [])))],[(2,.box true [.list false 3 (List.map (zD false) s.Commits),.list false 2 (List.map (zE false) s.Files)]),(3,.list true 1 (List.map (rK .i64) x35))]⟩) [1,4,5] [.q 1 33 (.pl (.one (.v (.list false 3 (List.map (zD false) s.Commits))))) [],.q 4 36 (.pl (.one (.v (.sc (.bool x36))))) [1],.q 5 2 (.pl (.one (.v (.sc (.bool x36))))) [1,4]] [(1,33),(4,36),(5,2)] [(1,true,[],[]),(4,true,[1],[]),(5,true,[1,4],[])] ⟨?_,?_,?_,trivial⟩ ⟨rfl,shd [2] [] 2 rfl⟩
     ·refine zV 0 ⟨37,2,4,[(32,.pl (.one (.addr 2 [] 0 0 0))),(35,.pl (.one (.ref 3 [])))],[(2,.box true [.list false 3 (List.map (zD false) s.Commits),.list false 2 (List.map (zE false) s.Files)]),(3,.list true 1 (List.map (rK .i64) x35))]⟩ ?_
      refine ops H' ?_
      refine zG ⟨rfl,shd [33,32,35] [(2,2),(3,3)] 4 rfl⟩
     ·refine zV 1 ⟨37,2,4,[(33,.pl (.one (.v (.list false 3 (List.map (zD false) s.Commits))))),(32,.pl (.one (.addr 2 [] 0 0 0))),(35,.pl (.one (.ref 3 [])))],[(2,.box true [.list false 3 (List.map (zD false) s.Commits),.list false 2 (List.map (zE false) s.Files)]),(3,.list true 1 (List.map (rK .i64) x35))]⟩ ?_
      refine zY H' (fun _=>[]) (W_spec_CommitsOk _ _ _ hy_x36) ?_
      refine zG ⟨rfl,shd [36,32,35] [(2,2),(3,3)] 4 rfl⟩
     ·refine zV 2 ⟨37,2,4,[(33,.pl (.one (.v (.list false 3 (List.map (zD false) s.Commits))))),(36,.pl (.one (.v (.sc (.bool x36))))),(32,.pl (.one (.addr 2 [] 0 0 0))),(35,.pl (.one (.ref 3 [])))],[(2,.box true [.list false 3 (List.map (zD false) s.Commits),.list false 2 (List.map (zE false) s.Files)]),(3,.list true 1 (List.map (rK .i64) x35))]⟩ ?_
      refine ops H' ?_
      refine zG ⟨rfl,shd [2,32,35] [(2,2),(3,3)] 4 rfl⟩
    have d8_0_0_1':anyF X ?ops8_0_0 [0] [(1,33,.pl (.one (.v (.list false 3 (List.map (zD false) s.Commits))))),(2,34,.pl (.agg [.v (.list false 3 (List.map (zD false) s.Commits)),.v (.list false 2 (List.map (zE false) s.Files))])),(4,36,.pl (.one (.v (.sc (.bool x36))))),(5,2,.pl (.one (.v (.sc (.bool x36)))))] ?P8_0_0 ⟨37,2,3,[(1,.pl (.one (.ref 2 []))),(32,.pl (.one (.addr 2 [] 0 0 0)))],[(2,.box true [.list false 3 (List.map (zD false) s.Commits),.list false 2 (List.map (zE false) s.Files)])]⟩:=by
     refine fnode [1,2] [.q 1 33 (.pl (.one (.v (.list false 3 (List.map (zD false) s.Commits))))) [],.q 2 34 (.pl (.agg [.v (.list false 3 (List.map (zD false) s.Commits)),.v (.list false 2 (List.map (zE false) s.Files))])) [],.m 3 [2] [0,2,3] [(1,33,.pl (.one (.v (.list false 3 (List.map (zD false) s.Commits))))),(4,36,.pl (.one (.v (.sc (.bool x36))))),(5,2,.pl (.one (.v (.sc (.bool x36)))))]] [(1,33),(2,34),(4,36),(5,2)] [(1,true,[],[]),(2,true,[],[]),(3,false,[2],[0,2,3])] ⟨?_,?_,?_,trivial⟩
     ·refine zV 0 ⟨37,2,3,[(1,.pl (.one (.ref 2 []))),(32,.pl (.one (.addr 2 [] 0 0 0)))],[(2,.box true [.list false 3 (List.map (zD false) s.Commits),.list false 2 (List.map (zE false) s.Files)])]⟩ ?_
      refine ops H' ?_
      refine zG ⟨rfl,shd [33,1,32] [(2,2)] 3 rfl⟩
     ·refine zV 1 ⟨37,2,3,[(1,.pl (.one (.ref 2 []))),(32,.pl (.one (.addr 2 [] 0 0 0)))],[(2,.box true [.list false 3 (List.map (zD false) s.Commits),.list false 2 (List.map (zE false) s.Files)])]⟩ ?_
      refine ops H' ?_
      refine zG ⟨rfl,shd [34,1,32] [(2,2)] 3 rfl⟩
     ·refine obMx ⟨37,2,3,[(34,.pl (.agg [.v (.list false 3 (List.map (zD false) s.Commits)),.v (.list false 2 (List.map (zE false) s.Files))])),(1,.pl (.one (.ref 2 []))),(32,.pl (.one (.addr 2 [] 0 0 0)))],[(2,.box true [.list false 3 (List.map (zD false) s.Commits),.list false 2 (List.map (zE false) s.Files)])]⟩ ?_
      refine zY H' (fun _=>[]) (W_spec_l15Versions _ _ hy_x35) ?_
      refine zG ⟨rfl,.inl ⟨rfl,?_⟩⟩
      exact qF [32,35] [(2,2),(3,3)] 4 d8_0_0_0'
    refine fpure H' 0 [0] [(1,33),(2,34),(4,36),(5,2)] ?_
    exact qF [1,32] [(2,2)] 3 d8_0_0_1'
   ·rintro e' rfl
    refine contN ?_
    refine zN ?_
    obtain rfl:=zso h0'
    exact zP H' rfl rfl
theorem W_spec_l06Lines (w:T_impl_Weave) (places:List Int) (r':(List ByteArray)) (h0':spec_l06Lines w places=some r'):Fn X 113 [.agg [.list false 1 (List.map (rL false 1 (rK .i64)) w.Parents),.list false 4 (List.map (zC false) w.Bodies)],.one (.list false 1 (List.map (rK .i64) places))] [.one (.list true 1 (List.map rS r'))] []:=by
 have H':=And.intro t3 (And.intro t9 (And.intro t31 (And.intro t33 (And.intro t36 (And.intro t43 (And.intro t110 (And.intro R_Li64 (And.intro qK (And.intro R_i64 (R_s))))))))))
 unfold spec_l06Lines at h0'
 refine Fn.start (fn:=f113) (N:=27) (res:=[.tmp 4]) rfl rfl rfl rfl rfl (by simp) ?_
 refine zW H' ?_
 refine zB ?_
 refine zA ?_
 refine ops H' ?_
 refine zF ?_
 refine zB ?_
 refine zA ?_
 refine ops H' ?_
 refine zF ?_
 refine zU (fun e'=>∃ out_,spec_l06Lines_j1 out_=some r'∧e'=⟨27,3,4,[(5,.pl (.one (.ref 3 [])))],[(3,.list true 1 (List.map rS out_))]⟩) ?_ ?_
 ·refine zB ?_
  refine zA ?_
  refine ops H' ?_
  refine zF ?_
  obtain ⟨p,hl',h0'⟩:=zbi h0'
  refine zI ?_
  refine zR (fun s' e'=>∃ i out__1,s'=(i,out__1)∧e'=⟨27,3,5,[(1,.pl (.one (.v (.list false 1 (List.map (rK .i64) places))))),(2,.pl (.one (.ref 3 []))),(5,.pl (.one (.ref 4 []))),(6,.pl (.one (.v (.sc (.int .i64 i)))))],[(3,.box true [.list false 1 (List.map (rL false 1 (rK .i64)) w.Parents),.list false 4 (List.map (zC false) w.Bodies)]),(4,.list true 1 (List.map rS out__1))]⟩) hl' (shd [1,2,5,6] [(3,3),(5,4)] 5 ⟨_,_,rfl,rfl⟩) ?_
  rintro s' y1' e' h1' ⟨i,out__1,rfl,rfl⟩
  replace h1':spec_l06Lines_l1 w places i out__1=some y1':=h1'
  unfold spec_l06Lines_l1 at h1'
  refine zB ?_
  refine zB ?_
  refine zA ?_
  refine ops H' ?_
  refine zF ?_
  refine zH (fun hc'=>?_) (fun hc'=>?_)
  ·replace h1':=(ifT hc').symm.trans h1'
   refine zM ?_
   refine zB ?_
   refine zI ?_
   obtain ⟨x,hv',h1'⟩:=zbi h1'
   have H':=And.intro (zS hv') H'
   obtain ⟨x_1,hv',h1'⟩:=zbi h1'
   have H':=And.intro (zS hv') H'
   obtain ⟨l,hv',h1'⟩:=zbi h1'
   have H':=And.intro (app1_f hv') H'
   refine wpV_J (fun e'=>e'=⟨27,3,5,[(1,.pl (.one (.v (.list false 1 (List.map (rK .i64) places))))),(2,.pl (.one (.ref 3 []))),(5,.pl (.one (.ref 4 []))),(6,.pl (.one (.v (.sc (.int .i64 i)))))],[(3,.box true [.list false 1 (List.map (rL false 1 (rK .i64)) w.Parents),.list false 4 (List.map (zC false) w.Bodies)]),(4,.list true 1 (List.map rS l))]⟩) ?_ ?_
   ·refine regAnyF [(2,16,.pl (.one (.v (.list false 4 (List.map (zC false) w.Bodies))))),(6,20,.pl (.one (.v (.sc (.int .i64 x))))),(7,21,.pl (.one (.ba [.sc (.string x_1.Line),.sc (.int .i64 x_1.Ins),.sc (.int .i64 x_1.Ord),.list false 1 (List.map (rK .i64) x_1.Dels)]))),(8,22,.pl (.one (.ba [.sc (.string x_1.Line),.sc (.int .i64 x_1.Ins),.sc (.int .i64 x_1.Ord),.list false 1 (List.map (rK .i64) x_1.Dels)]))),(9,23,.pl (.one (.v (.sc (.string x_1.Line)))))] ?_
    refine (?_:anyF X ?ops5_0_0 _ _ ?P5_0_0 _)
    have d5_0_0_0':anyF X ?ops5_0_0 [0,1,2,3,4,5,6,7,8,9,10,11,12] [] ?P5_0_0 ⟨27,3,5,[(1,.pl (.one (.v (.list false 1 (List.map (rK .i64) places))))),(2,.pl (.one (.ref 3 []))),(5,.pl (.one (.ref 4 []))),(6,.pl (.one (.v (.sc (.int .i64 i)))))],[(3,.box true [.list false 1 (List.map (rL false 1 (rK .i64)) w.Parents),.list false 4 (List.map (zC false) w.Bodies)]),(4,.list true 1 (List.map rS l))]⟩:=by
     refine fend (e2:=⟨27,3,5,[(1,.pl (.one (.v (.list false 1 (List.map (rK .i64) places))))),(2,.pl (.one (.ref 3 []))),(5,.pl (.one (.ref 4 []))),(6,.pl (.one (.v (.sc (.int .i64 i)))))],[(3,.box true [.list false 1 (List.map (rL false 1 (rK .i64)) w.Parents),.list false 4 (List.map (zC false) w.Bodies)]),(4,.list true 1 (List.map rS l))]⟩) [] [] [] [] trivial ⟨rfl,shd [1,2,5,6] [(3,3),(4,4)] 5 rfl⟩
    have d5_0_0_1':anyF X ?ops5_0_0 [0,1,2,3,4,5,6,7,8,9,10,11] [] ?P5_0_0 ⟨27,3,5,[(1,.pl (.one (.v (.list false 1 (List.map (rK .i64) places))))),(2,.pl (.one (.ref 3 []))),(6,.pl (.one (.v (.sc (.int .i64 i))))),(25,.pl (.one (.ref 4 [])))],[(3,.box true [.list false 1 (List.map (rL false 1 (rK .i64)) w.Parents),.list false 4 (List.map (zC false) w.Bodies)]),(4,.list true 1 (List.map rS l))]⟩:=by
     refine fnode [] [.m 12 [] [0,1,2,3,4,5,6,7,8,9,10,11,12] []] [] [(12,false,[],[0,1,2,3,4,5,6,7,8,9,10,11,12])] ⟨?_,trivial⟩
     ·refine obMx ⟨27,3,5,[(1,.pl (.one (.v (.list false 1 (List.map (rK .i64) places))))),(2,.pl (.one (.ref 3 []))),(6,.pl (.one (.v (.sc (.int .i64 i))))),(25,.pl (.one (.ref 4 [])))],[(3,.box true [.list false 1 (List.map (rL false 1 (rK .i64)) w.Parents),.list false 4 (List.map (zC false) w.Bodies)]),(4,.list true 1 (List.map rS l))]⟩ ?_
      refine ops H' ?_
      refine zG ⟨rfl,.inl ⟨rfl,?_⟩⟩
      exact qF [1,2,5,6] [(3,3),(4,4)] 5 d5_0_0_0'
    have d5_0_0_2':anyF X ?ops5_0_0 [0,1,2,3,4,5,6,7,8,9,10] [] ?P5_0_0 ⟨27,3,6,[(1,.pl (.one (.v (.list false 1 (List.map (rK .i64) places))))),(2,.pl (.one (.ref 3 []))),(6,.pl (.one (.v (.sc (.int .i64 i))))),(14,.pl (.one (.ref 4 []))),(24,.pl (.one (.ref 5 [])))],[(3,.box true [.list false 1 (List.map (rL false 1 (rK .i64)) w.Parents),.list false 4 (List.map (zC false) w.Bodies)]),(4,.list true 1 (List.map rS out__1)),(5,.list true 1 (List.map rS [x_1.Line]))]⟩:=by
     refine fnode [] [.m 11 [] [0,1,2,3,4,5,6,7,8,9,10,11] []] [] [(11,false,[],[0,1,2,3,4,5,6,7,8,9,10,11])] ⟨?_,trivial⟩
     ·refine obMx ⟨27,3,6,[(1,.pl (.one (.v (.list false 1 (List.map (rK .i64) places))))),(2,.pl (.one (.ref 3 []))),(6,.pl (.one (.v (.sc (.int .i64 i))))),(14,.pl (.one (.ref 4 []))),(24,.pl (.one (.ref 5 [])))],[(3,.box true [.list false 1 (List.map (rL false 1 (rK .i64)) w.Parents),.list false 4 (List.map (zC false) w.Bodies)]),(4,.list true 1 (List.map rS out__1)),(5,.list true 1 (List.map rS [x_1.Line]))]⟩ ?_
      refine ops H' ?_
      refine zG ⟨rfl,.inl ⟨rfl,?_⟩⟩
      exact qF [1,2,6,25] [(3,3),(4,4)] 5 d5_0_0_1'
    have d5_0_0_3':anyF X ?ops5_0_0 [0,1,3,4,5] [(2,16,.pl (.one (.v (.list false 4 (List.map (zC false) w.Bodies))))),(6,20,.pl (.one (.v (.sc (.int .i64 x))))),(7,21,.pl (.one (.ba [.sc (.string x_1.Line),.sc (.int .i64 x_1.Ins),.sc (.int .i64 x_1.Ord),.list false 1 (List.map (rK .i64) x_1.Dels)]))),(8,22,.pl (.one (.ba [.sc (.string x_1.Line),.sc (.int .i64 x_1.Ins),.sc (.int .i64 x_1.Ord),.list false 1 (List.map (rK .i64) x_1.Dels)]))),(9,23,.pl (.one (.v (.sc (.string x_1.Line)))))] ?P5_0_0 ⟨27,3,5,[(1,.pl (.one (.v (.list false 1 (List.map (rK .i64) places))))),(2,.pl (.one (.ref 3 []))),(6,.pl (.one (.v (.sc (.int .i64 i))))),(14,.pl (.one (.ref 4 []))),(15,.pl (.one (.addr 3 [] 0 0 1))),(19,.pl (.one (.ba [.sc (.int .i64 x)])))],[(3,.box true [.list false 1 (List.map (rL false 1 (rK .i64)) w.Parents),.list false 4 (List.map (zC false) w.Bodies)]),(4,.list true 1 (List.map rS out__1))]⟩:=by
     refine fnode [2,6,7,8,9] [.q 2 16 (.pl (.one (.v (.list false 4 (List.map (zC false) w.Bodies))))) [],.q 6 20 (.pl (.one (.v (.sc (.int .i64 x))))) [],.q 7 21 (.pl (.one (.ba [.sc (.string x_1.Line),.sc (.int .i64 x_1.Ins),.sc (.int .i64 x_1.Ord),.list false 1 (List.map (rK .i64) x_1.Dels)]))) [2,6],.q 8 22 (.pl (.one (.ba [.sc (.string x_1.Line),.sc (.int .i64 x_1.Ins),.sc (.int .i64 x_1.Ord),.list false 1 (List.map (rK .i64) x_1.Dels)]))) [7],.q 9 23 (.pl (.one (.v (.sc (.string x_1.Line))))) [8],.m 10 [9,8,7,2,6] [0,1,2,3,4,5,6,7,8,9,10] []] [(2,16),(6,20),(7,21),(8,22),(9,23)] [(2,true,[],[]),(6,true,[],[]),(7,true,[2,6],[]),(8,true,[7],[]),(9,true,[8],[]),(10,false,[9,8,7,2,6],[0,1,2,3,4,5,6,7,8,9,10])] ⟨?_,?_,?_,?_,?_,?_,trivial⟩
     ·refine zV 0 ⟨27,3,5,[(1,.pl (.one (.v (.list false 1 (List.map (rK .i64) places))))),(2,.pl (.one (.ref 3 []))),(6,.pl (.one (.v (.sc (.int .i64 i))))),(14,.pl (.one (.ref 4 []))),(15,.pl (.one (.addr 3 [] 0 0 1))),(19,.pl (.one (.ba [.sc (.int .i64 x)])))],[(3,.box true [.list false 1 (List.map (rL false 1 (rK .i64)) w.Parents),.list false 4 (List.map (zC false) w.Bodies)]),(4,.list true 1 (List.map rS out__1))]⟩ ?_
      refine ops H' ?_
      refine zG ⟨rfl,shd [16,1,2,6,14,15,19] [(3,3),(4,4)] 5 rfl⟩
     ·refine zV 1 ⟨27,3,5,[(1,.pl (.one (.v (.list false 1 (List.map (rK .i64) places))))),(2,.pl (.one (.ref 3 []))),(6,.pl (.one (.v (.sc (.int .i64 i))))),(14,.pl (.one (.ref 4 []))),(15,.pl (.one (.addr 3 [] 0 0 1))),(19,.pl (.one (.ba [.sc (.int .i64 x)])))],[(3,.box true [.list false 1 (List.map (rL false 1 (rK .i64)) w.Parents),.list false 4 (List.map (zC false) w.Bodies)]),(4,.list true 1 (List.map rS out__1))]⟩ ?_
      refine ops H' ?_
      refine zG ⟨rfl,shd [20,1,2,6,14,15,19] [(3,3),(4,4)] 5 rfl⟩
     ·refine zV 2 ⟨27,3,5,[(16,.pl (.one (.v (.list false 4 (List.map (zC false) w.Bodies))))),(20,.pl (.one (.v (.sc (.int .i64 x))))),(1,.pl (.one (.v (.list false 1 (List.map (rK .i64) places))))),(2,.pl (.one (.ref 3 []))),(6,.pl (.one (.v (.sc (.int .i64 i))))),(14,.pl (.one (.ref 4 []))),(15,.pl (.one (.addr 3 [] 0 0 1))),(19,.pl (.one (.ba [.sc (.int .i64 x)])))],[(3,.box true [.list false 1 (List.map (rL false 1 (rK .i64)) w.Parents),.list false 4 (List.map (zC false) w.Bodies)]),(4,.list true 1 (List.map rS out__1))]⟩ ?_
      refine ops H' ?_
      refine zG ⟨rfl,shd [21,1,2,6,14,15,19] [(3,3),(4,4)] 5 rfl⟩
     ·refine zV 3 ⟨27,3,5,[(21,.pl (.one (.ba [.sc (.string x_1.Line),.sc (.int .i64 x_1.Ins),.sc (.int .i64 x_1.Ord),.list false 1 (List.map (rK .i64) x_1.Dels)]))),(1,.pl (.one (.v (.list false 1 (List.map (rK .i64) places))))),(2,.pl (.one (.ref 3 []))),(6,.pl (.one (.v (.sc (.int .i64 i))))),(14,.pl (.one (.ref 4 []))),(15,.pl (.one (.addr 3 [] 0 0 1))),(19,.pl (.one (.ba [.sc (.int .i64 x)])))],[(3,.box true [.list false 1 (List.map (rL false 1 (rK .i64)) w.Parents),.list false 4 (List.map (zC false) w.Bodies)]),(4,.list true 1 (List.map rS out__1))]⟩ ?_
      refine ops H' ?_
      refine zG ⟨rfl,shd [22,1,2,6,14,15,19] [(3,3),(4,4)] 5 rfl⟩
     ·refine zV 4 ⟨27,3,5,[(22,.pl (.one (.ba [.sc (.string x_1.Line),.sc (.int .i64 x_1.Ins),.sc (.int .i64 x_1.Ord),.list false 1 (List.map (rK .i64) x_1.Dels)]))),(1,.pl (.one (.v (.list false 1 (List.map (rK .i64) places))))),(2,.pl (.one (.ref 3 []))),(6,.pl (.one (.v (.sc (.int .i64 i))))),(14,.pl (.one (.ref 4 []))),(15,.pl (.one (.addr 3 [] 0 0 1))),(19,.pl (.one (.ba [.sc (.int .i64 x)])))],[(3,.box true [.list false 1 (List.map (rL false 1 (rK .i64)) w.Parents),.list false 4 (List.map (zC false) w.Bodies)]),(4,.list true 1 (List.map rS out__1))]⟩ ?_
      refine ops H' ?_
      refine zG ⟨rfl,shd [23,1,2,6,14,15,19] [(3,3),(4,4)] 5 rfl⟩
     ·refine obMx ⟨27,3,5,[(16,.pl (.one (.v (.list false 4 (List.map (zC false) w.Bodies))))),(20,.pl (.one (.v (.sc (.int .i64 x))))),(21,.pl (.one (.ba [.sc (.string x_1.Line),.sc (.int .i64 x_1.Ins),.sc (.int .i64 x_1.Ord),.list false 1 (List.map (rK .i64) x_1.Dels)]))),(22,.pl (.one (.ba [.sc (.string x_1.Line),.sc (.int .i64 x_1.Ins),.sc (.int .i64 x_1.Ord),.list false 1 (List.map (rK .i64) x_1.Dels)]))),(23,.pl (.one (.v (.sc (.string x_1.Line))))),(1,.pl (.one (.v (.list false 1 (List.map (rK .i64) places))))),(2,.pl (.one (.ref 3 []))),(6,.pl (.one (.v (.sc (.int .i64 i))))),(14,.pl (.one (.ref 4 []))),(15,.pl (.one (.addr 3 [] 0 0 1))),(19,.pl (.one (.ba [.sc (.int .i64 x)])))],[(3,.box true [.list false 1 (List.map (rL false 1 (rK .i64)) w.Parents),.list false 4 (List.map (zC false) w.Bodies)]),(4,.list true 1 (List.map rS out__1))]⟩ ?_
      refine ops H' ?_
      refine zG ⟨rfl,.inl ⟨rfl,?_⟩⟩
      exact qF [1,2,6,14,24] [(3,3),(4,4),(5,5)] 6 d5_0_0_2'
    refine fpure H' 0 [0] [(2,16),(6,20),(7,21),(8,22),(9,23)] ?_
    refine fpure H' 1 [0,1] [(2,16),(6,20),(7,21),(8,22),(9,23)] ?_
    refine fpure H' 3 [0,1,3] [(2,16),(6,20),(7,21),(8,22),(9,23)] ?_
    refine fpure H' 4 [0,1,3,4] [(2,16),(6,20),(7,21),(8,22),(9,23)] ?_
    refine fpure H' 5 [0,1,3,4,5] [(2,16),(6,20),(7,21),(8,22),(9,23)] ?_
    exact qF [1,2,6,14,15,19] [(3,3),(4,4)] 5 d5_0_0_3'
   ·rintro e' rfl
    refine contN ?_
    refine zA ?_
    refine ops H' ?_
    refine zF ?_
    obtain rfl:=zso h1'
    exact shd [1,2,5,6] [(3,3),(4,4)] 5 ⟨_,rfl,_,_,rfl,rfl⟩
  ·replace h1':=(ifF hc').symm.trans h1'
   refine qJ ?_
   obtain rfl:=zso h1'
   refine ⟨_,rfl,fun hr'=>?_⟩
   subst hr'
   exact shd [5] [(4,3)] 4 ⟨_,h0',rfl⟩
 ·rintro e' ⟨out_,h0',rfl⟩
  unfold spec_l06Lines_j1 at h0'
  refine zB ?_
  refine zA ?_
  refine ops H' ?_
  refine zF ?_
  refine zN ?_
  obtain rfl:=zso h0'
  exact zP H' rfl rfl
theorem W_spec_l06Text (w:T_impl_Weave) (v:Int) (r':(List ByteArray)) (h0':spec_l06Text w v=some r'):Fn X 58 [.agg [.list false 1 (List.map (rL false 1 (rK .i64)) w.Parents),.list false 4 (List.map (zC false) w.Bodies)],.one (.sc (.int .i64 v))] [.one (.list true 1 (List.map rS r'))] []:=by
 have H':=And.intro t33 (And.intro R_Li64 (And.intro qK (And.intro R_b (And.intro R_i64 (R_s)))))
 unfold spec_l06Text at h0'
 refine Fn.start (fn:=f58) (N:=12) (res:=[.tmp 4]) rfl rfl rfl rfl rfl (by simp) ?_
 refine zW H' ?_
 refine zB ?_
 refine zA ?_
 refine ops H' ?_
 refine zF ?_
 refine zB ?_
 obtain ⟨x9,hy_x9,h0'⟩:=zbi h0'
 obtain ⟨x10,hy_x10,h0'⟩:=zbi h0'
 obtain ⟨x11,hy_x11,h0'⟩:=zbi h0'
 refine wpV_J (fun e'=>e'=⟨12,3,4,[(4,.pl (.one (.ref 3 [])))],[(3,.list true 1 (List.map rS x11))]⟩) ?_ ?_
 ·refine regAnyF [(0,5,.pl (.agg [.v (.list false 1 (List.map (rL false 1 (rK .i64)) w.Parents)),.v (.list false 4 (List.map (zC false) w.Bodies))])),(1,6,.pl (.agg [.v (.list false 1 (List.map (rL false 1 (rK .i64)) w.Parents)),.v (.list false 4 (List.map (zC false) w.Bodies))])),(2,7,.pl (.agg [.v (.list false 1 (List.map (rL false 1 (rK .i64)) w.Parents)),.v (.list false 4 (List.map (zC false) w.Bodies))]))] ?_
  refine (?_:anyF X ?ops1_0_0 _ _ ?P1_0_0 _)
  have d1_0_0_0':anyF X ?ops1_0_0 [0,1,2,3,4,5,6,7] [] ?P1_0_0 ⟨12,3,4,[(4,.pl (.one (.ref 3 [])))],[(3,.list true 1 (List.map rS x11))]⟩:=by
   refine fend (e2:=⟨12,3,4,[(4,.pl (.one (.ref 3 [])))],[(3,.list true 1 (List.map rS x11))]⟩) [] [] [] [] trivial ⟨rfl,shd [4] [(3,3)] 4 rfl⟩
  have d1_0_0_1':anyF X ?ops1_0_0 [0,1,2,3,4,5,6] [] ?P1_0_0 ⟨12,3,4,[(11,.pl (.one (.ref 3 [])))],[(3,.list true 1 (List.map rS x11))]⟩:=by
   refine fnode [] [.m 7 [] [0,1,2,3,4,5,6,7] []] [] [(7,false,[],[0,1,2,3,4,5,6,7])] ⟨?_,trivial⟩
   ·refine obMx ⟨12,3,4,[(11,.pl (.one (.ref 3 [])))],[(3,.list true 1 (List.map rS x11))]⟩ ?_
    refine ops H' ?_
    refine zG ⟨rfl,.inl ⟨rfl,?_⟩⟩
    exact qF [4] [(3,3)] 4 d1_0_0_0'
  have d1_0_0_2':anyF X ?ops1_0_0 [1,2,3,4,5] [(0,5,.pl (.agg [.v (.list false 1 (List.map (rL false 1 (rK .i64)) w.Parents)),.v (.list false 4 (List.map (zC false) w.Bodies))]))] ?P1_0_0 ⟨12,3,5,[(2,.pl (.one (.ref 3 []))),(10,.pl (.one (.ref 4 [])))],[(3,.box true [.list false 1 (List.map (rL false 1 (rK .i64)) w.Parents),.list false 4 (List.map (zC false) w.Bodies)]),(4,.list true 1 (List.map (rK .i64) x10))]⟩:=by
   refine fnode [0] [.q 0 5 (.pl (.agg [.v (.list false 1 (List.map (rL false 1 (rK .i64)) w.Parents)),.v (.list false 4 (List.map (zC false) w.Bodies))])) [],.m 6 [0] [0,1,2,3,4,5,6] []] [(0,5)] [(0,true,[],[]),(6,false,[0],[0,1,2,3,4,5,6])] ⟨?_,?_,trivial⟩
   ·refine zV 0 ⟨12,3,5,[(2,.pl (.one (.ref 3 []))),(10,.pl (.one (.ref 4 [])))],[(3,.box true [.list false 1 (List.map (rL false 1 (rK .i64)) w.Parents),.list false 4 (List.map (zC false) w.Bodies)]),(4,.list true 1 (List.map (rK .i64) x10))]⟩ ?_
    refine ops H' ?_
    refine zG ⟨rfl,shd [5,2,10] [(3,3),(4,4)] 5 rfl⟩
   ·refine obMx ⟨12,3,5,[(5,.pl (.agg [.v (.list false 1 (List.map (rL false 1 (rK .i64)) w.Parents)),.v (.list false 4 (List.map (zC false) w.Bodies))])),(2,.pl (.one (.ref 3 []))),(10,.pl (.one (.ref 4 [])))],[(3,.box true [.list false 1 (List.map (rL false 1 (rK .i64)) w.Parents),.list false 4 (List.map (zC false) w.Bodies)]),(4,.list true 1 (List.map (rK .i64) x10))]⟩ ?_
    refine zY H' (fun _=>[]) (W_spec_l06Lines _ _ _ hy_x11) ?_
    refine zG ⟨rfl,.inl ⟨rfl,?_⟩⟩
    exact qF [11] [(5,3)] 4 d1_0_0_1'
  have d1_0_0_3':anyF X ?ops1_0_0 [2,3,4] [(0,5,.pl (.agg [.v (.list false 1 (List.map (rL false 1 (rK .i64)) w.Parents)),.v (.list false 4 (List.map (zC false) w.Bodies))])),(1,6,.pl (.agg [.v (.list false 1 (List.map (rL false 1 (rK .i64)) w.Parents)),.v (.list false 4 (List.map (zC false) w.Bodies))]))] ?P1_0_0 ⟨12,3,5,[(2,.pl (.one (.ref 3 []))),(9,.pl (.one (.ref 4 [])))],[(3,.box true [.list false 1 (List.map (rL false 1 (rK .i64)) w.Parents),.list false 4 (List.map (zC false) w.Bodies)]),(4,.list true 1 (List.map rB x9))]⟩:=by
   refine fnode [0,1] [.q 0 5 (.pl (.agg [.v (.list false 1 (List.map (rL false 1 (rK .i64)) w.Parents)),.v (.list false 4 (List.map (zC false) w.Bodies))])) [],.q 1 6 (.pl (.agg [.v (.list false 1 (List.map (rL false 1 (rK .i64)) w.Parents)),.v (.list false 4 (List.map (zC false) w.Bodies))])) [],.m 5 [1] [1,2,3,4,5] [(0,5,.pl (.agg [.v (.list false 1 (List.map (rL false 1 (rK .i64)) w.Parents)),.v (.list false 4 (List.map (zC false) w.Bodies))]))]] [(0,5),(1,6)] [(0,true,[],[]),(1,true,[],[]),(5,false,[1],[1,2,3,4,5])] ⟨?_,?_,?_,trivial⟩
   ·refine zV 0 ⟨12,3,5,[(2,.pl (.one (.ref 3 []))),(9,.pl (.one (.ref 4 [])))],[(3,.box true [.list false 1 (List.map (rL false 1 (rK .i64)) w.Parents),.list false 4 (List.map (zC false) w.Bodies)]),(4,.list true 1 (List.map rB x9))]⟩ ?_
    refine ops H' ?_
    refine zG ⟨rfl,shd [5,2,9] [(3,3),(4,4)] 5 rfl⟩
   ·refine zV 1 ⟨12,3,5,[(2,.pl (.one (.ref 3 []))),(9,.pl (.one (.ref 4 [])))],[(3,.box true [.list false 1 (List.map (rL false 1 (rK .i64)) w.Parents),.list false 4 (List.map (zC false) w.Bodies)]),(4,.list true 1 (List.map rB x9))]⟩ ?_
    refine ops H' ?_
    refine zG ⟨rfl,shd [6,2,9] [(3,3),(4,4)] 5 rfl⟩
   ·refine obMx ⟨12,3,5,[(6,.pl (.agg [.v (.list false 1 (List.map (rL false 1 (rK .i64)) w.Parents)),.v (.list false 4 (List.map (zC false) w.Bodies))])),(2,.pl (.one (.ref 3 []))),(9,.pl (.one (.ref 4 [])))],[(3,.box true [.list false 1 (List.map (rL false 1 (rK .i64)) w.Parents),.list false 4 (List.map (zC false) w.Bodies)]),(4,.list true 1 (List.map rB x9))]⟩ ?_
    refine zY H' (fun _=>[]) (W_spec_l06Places _ _ _ hy_x10) ?_
    refine zG ⟨rfl,.inl ⟨rfl,?_⟩⟩
    exact qF [2,10] [(3,3),(5,4)] 5 d1_0_0_2'
  have d1_0_0_4':anyF X ?ops1_0_0 [3] [(0,5,.pl (.agg [.v (.list false 1 (List.map (rL false 1 (rK .i64)) w.Parents)),.v (.list false 4 (List.map (zC false) w.Bodies))])),(1,6,.pl (.agg [.v (.list false 1 (List.map (rL false 1 (rK .i64)) w.Parents)),.v (.list false 4 (List.map (zC false) w.Bodies))])),(2,7,.pl (.agg [.v (.list false 1 (List.map (rL false 1 (rK .i64)) w.Parents)),.v (.list false 4 (List.map (zC false) w.Bodies))]))] ?P1_0_0 ⟨12,3,4,[(2,.pl (.one (.ref 3 []))),(8,.pl (.one (.v (.sc (.int .i64 v)))))],[(3,.box true [.list false 1 (List.map (rL false 1 (rK .i64)) w.Parents),.list false 4 (List.map (zC false) w.Bodies)])]⟩:=by
   refine fnode [0,1,2] [.q 0 5 (.pl (.agg [.v (.list false 1 (List.map (rL false 1 (rK .i64)) w.Parents)),.v (.list false 4 (List.map (zC false) w.Bodies))])) [],.q 1 6 (.pl (.agg [.v (.list false 1 (List.map (rL false 1 (rK .i64)) w.Parents)),.v (.list false 4 (List.map (zC false) w.Bodies))])) [],.q 2 7 (.pl (.agg [.v (.list false 1 (List.map (rL false 1 (rK .i64)) w.Parents)),.v (.list false 4 (List.map (zC false) w.Bodies))])) [],.m 4 [2] [2,3,4] [(0,5,.pl (.agg [.v (.list false 1 (List.map (rL false 1 (rK .i64)) w.Parents)),.v (.list false 4 (List.map (zC false) w.Bodies))])),(1,6,.pl (.agg [.v (.list false 1 (List.map (rL false 1 (rK .i64)) w.Parents)),.v (.list false 4 (List.map (zC false) w.Bodies))]))]] [(0,5),(1,6),(2,7)] [(0,true,[],[]),(1,true,[],[]),(2,true,[],[]),(4,false,[2],[2,3,4])] ⟨?_,?_,?_,?_,trivial⟩
   ·refine zV 0 ⟨12,3,4,[(2,.pl (.one (.ref 3 []))),(8,.pl (.one (.v (.sc (.int .i64 v)))))],[(3,.box true [.list false 1 (List.map (rL false 1 (rK .i64)) w.Parents),.list false 4 (List.map (zC false) w.Bodies)])]⟩ ?_
    refine ops H' ?_
    refine zG ⟨rfl,shd [5,2,8] [(3,3)] 4 rfl⟩
   ·refine zV 1 ⟨12,3,4,[(2,.pl (.one (.ref 3 []))),(8,.pl (.one (.v (.sc (.int .i64 v)))))],[(3,.box true [.list false 1 (List.map (rL false 1 (rK .i64)) w.Parents),.list false 4 (List.map (zC false) w.Bodies)])]⟩ ?_
    refine ops H' ?_
    refine zG ⟨rfl,shd [6,2,8] [(3,3)] 4 rfl⟩
   ·refine zV 2 ⟨12,3,4,[(2,.pl (.one (.ref 3 []))),(8,.pl (.one (.v (.sc (.int .i64 v)))))],[(3,.box true [.list false 1 (List.map (rL false 1 (rK .i64)) w.Parents),.list false 4 (List.map (zC false) w.Bodies)])]⟩ ?_
    refine ops H' ?_
    refine zG ⟨rfl,shd [7,2,8] [(3,3)] 4 rfl⟩
   ·refine obMx ⟨12,3,4,[(7,.pl (.agg [.v (.list false 1 (List.map (rL false 1 (rK .i64)) w.Parents)),.v (.list false 4 (List.map (zC false) w.Bodies))])),(2,.pl (.one (.ref 3 []))),(8,.pl (.one (.v (.sc (.int .i64 v)))))],[(3,.box true [.list false 1 (List.map (rL false 1 (rK .i64)) w.Parents),.list false 4 (List.map (zC false) w.Bodies)])]⟩ ?_
    refine zY H' (fun _=>[]) (W_spec_l06Closure _ _ _ hy_x9) ?_
    refine zG ⟨rfl,.inl ⟨rfl,?_⟩⟩
    exact qF [2,9] [(3,3),(4,4)] 5 d1_0_0_3'
  refine fpure H' 3 [3] [(0,5),(1,6),(2,7)] ?_
  exact qF [2,8] [(3,3)] 4 d1_0_0_4'
 ·rintro e' rfl
  refine contN ?_
  refine zN ?_
  obtain rfl:=zso h0'
  exact zP H' rfl rfl
end Go.TV.KFnExactStatsOf
