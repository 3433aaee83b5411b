/- Walks. -/
import Derived.Test.YthfhiepgdeghpaaKFnLivesE
set_option linter.unusedVariables false
set_option linter.unusedSimpArgs false
set_option maxHeartbeats 8000000
set_option maxRecDepth 100000
namespace Go.TV.KFnLives
attribute [local irreducible] anyV wpV opsV Does thenV blockV RetL quV seqV
open Go.Proofs.Try Go.TV.F
theorem W_spec_LineOk (line:ByteArray) (r':Bool) (h0':spec_LineOk line=some r'):Fn X 171 [.one (.sc (.string line))] [.one (.sc (.bool r'))] []:=by
 have H':=And.intro t3 (And.intro t5 (t9))
 unfold spec_LineOk at h0'
 refine Fn.start (fn:=f171) (N:=17) (res:=[.tmp 2]) rfl rfl rfl rfl rfl (by simp) ?_
 refine zW H' ?_
 refine zC ?_
 refine zB ?_
 refine ops H' ?_
 refine zE ?_
 refine zU (fun e'=>spec_LineOk_j1 line=some r'∧e'=⟨17,1,1,[(0,.pl (.one (.v (.sc (.string line)))))],[]⟩) ?_ ?_
 ·refine zC ?_
  refine zB ?_
  refine ops H' ?_
  refine zE ?_
  obtain ⟨p,hl',h0'⟩:=zbi h0'
  refine zJ ?_
  refine zX (fun i e'=>e'=⟨17,1,1,[(0,.pl (.one (.v (.sc (.string line))))),(3,.pl (.one (.v (.sc (.int .i64 i)))))],[]⟩) hl' (shd [0,3] [] 1 rfl) ?_
  rintro i y1' e' h1' rfl
  replace h1':spec_LineOk_l1 line i=some y1':=h1'
  unfold spec_LineOk_l1 at h1'
  refine zC ?_
  refine zC ?_
  refine zB ?_
  refine ops H' ?_
  refine zE ?_
  refine zH (fun hc'=>?_) (fun hc'=>?_)
  ·replace h1':=(ifT hc').symm.trans h1'
   refine zR ?_
   refine zC ?_
   refine zJ ?_
   refine zC ?_
   refine zB ?_
   obtain ⟨x12,hv',h1'⟩:=zbi h1'
   have H':=And.intro (sidx_f hv') H'
   refine ops H' ?_
   refine zE ?_
   refine zH (fun hc'=>?_) (fun hc'=>?_)
   ·replace h1':=(ifT hc').symm.trans h1'
    refine zC ?_
    refine zB ?_
    refine ops H' ?_
    refine zE ?_
    refine retN ?_
    obtain rfl:=zso h1'
    refine ⟨_,rfl,fun hr'=>?_⟩
    subst hr'
    obtain rfl:=zso h0'
    exact outG H' rfl rfl
   ·replace h1':=(ifF hc').symm.trans h1'
    refine zR ?_
    refine zB ?_
    refine ops H' ?_
    refine zE ?_
    obtain rfl:=zso h1'
    exact shd [0,3] [] 1 ⟨_,rfl,rfl⟩
  ·replace h1':=(ifF hc').symm.trans h1'
   refine exitN ?_
   obtain rfl:=zso h1'
   refine ⟨_,rfl,fun hr'=>?_⟩
   subst hr'
   exact shd [0] [] 1 ⟨h0',rfl⟩
 ·rintro e' ⟨h0',rfl⟩
  unfold spec_LineOk_j1 at h0'
  refine zC ?_
  refine zB ?_
  refine ops H' ?_
  refine zE ?_
  refine retN ?_
  obtain rfl:=zso h0'
  exact outG H' rfl rfl
theorem W_spec_l03All (list_:List ByteArray) (most:Int) (r':Bool) (h0':spec_l03All list_ most=some r'):Fn X 187 [.one (.list false 1 (List.map rS list_)),.one (.sc (.int .i64 most))] [.one (.sc (.bool r'))] []:=by
 have H':=And.intro t3 (And.intro t9 (And.intro t55 (R_s)))
 unfold spec_l03All at h0'
 refine Fn.start (fn:=f187) (N:=22) (res:=[.tmp 4]) rfl rfl rfl rfl rfl (by simp) ?_
 refine zW H' ?_
 refine zC ?_
 refine zB ?_
 refine ops H' ?_
 refine zE ?_
 refine zC ?_
 refine zC ?_
 refine zB ?_
 refine ops H' ?_
 refine zE ?_
 refine zH (fun hc'=>?_) (fun hc'=>?_)
 ·replace h0':=(ifT hc').symm.trans h0'
  refine zC ?_
  refine zB ?_
  refine ops H' ?_
  refine zE ?_
  refine retN ?_
  obtain rfl:=zso h0'
  exact outG H' rfl rfl
 ·replace h0':=(ifF hc').symm.trans h0'
  refine zR ?_
  refine zU (fun e'=>spec_l03All_j1=some r'∧e'=⟨22,2,2,[],[]⟩) ?_ ?_
  ·refine zC ?_
   refine zB ?_
   refine ops H' ?_
   refine zE ?_
   obtain ⟨p,hl',h0'⟩:=zbi h0'
   refine zJ ?_
   refine zX (fun i e'=>e'=⟨22,2,2,[(0,.pl (.one (.v (.list false 1 (List.map rS list_))))),(5,.pl (.one (.v (.sc (.int .i64 i)))))],[]⟩) hl' (shd [0,5] [] 2 rfl) ?_
   rintro i y1' e' h1' rfl
   replace h1':spec_l03All_l1 list_ i=some y1':=h1'
   unfold spec_l03All_l1 at h1'
   refine zC ?_
   refine zC ?_
   refine zB ?_
   refine ops H' ?_
   refine zE ?_
   refine zH (fun hc'=>?_) (fun hc'=>?_)
   ·replace h1':=(ifT hc').symm.trans h1'
    refine zR ?_
    refine zC ?_
    refine zJ ?_
    refine zC ?_
    refine zB ?_
    obtain ⟨x,hv',h1'⟩:=zbi h1'
    have H':=And.intro (zP hv') H'
    refine ops H' ?_
    obtain ⟨x20,hy',h1'⟩:=zbi h1'
    refine zO H' (fun _=>[]) (W_spec_LineOk _ _ hy') ?_
    refine ops H' ?_
    refine zE ?_
    refine zH (fun hc'=>?_) (fun hc'=>?_)
    ·replace h1':=(ifT hc').symm.trans h1'
     refine zC ?_
     refine zB ?_
     refine ops H' ?_
     refine zE ?_
     refine retN ?_
     obtain rfl:=zso h1'
     refine ⟨_,rfl,fun hr'=>?_⟩
     subst hr'
     obtain rfl:=zso h0'
     exact outG H' rfl rfl
    ·replace h1':=(ifF hc').symm.trans h1'
     refine zR ?_
     refine zB ?_
     refine ops H' ?_
     refine zE ?_
     obtain rfl:=zso h1'
     exact shd [0,5] [] 2 ⟨_,rfl,rfl⟩
   ·replace h1':=(ifF hc').symm.trans h1'
    refine exitN ?_
    obtain rfl:=zso h1'
    refine ⟨_,rfl,fun hr'=>?_⟩
    subst hr'
    exact shd [] [] 2 ⟨h0',rfl⟩
  ·rintro e' ⟨h0',rfl⟩
   unfold spec_l03All_j1 at h0'
   refine zC ?_
   refine zB ?_
   refine ops H' ?_
   refine zE ?_
   refine retN ?_
   obtain rfl:=zso h0'
   exact outG H' rfl rfl
theorem W_spec_LinesOk (list_:List ByteArray) (r':Bool) (h0':spec_LinesOk list_=some r'):Fn X 151 [.one (.list false 1 (List.map rS list_))] [.one (.sc (.bool r'))] []:=by
 have H':=R_s
 unfold spec_LinesOk at h0'
 refine Fn.start (fn:=f151) (N:=5) (res:=[.tmp 2]) rfl rfl rfl rfl rfl (by simp) ?_
 refine zW H' ?_
 refine zC ?_
 refine zB ?_
 refine ops H' ?_
 refine zE ?_
 refine zC ?_
 refine zB ?_
 refine ops H' ?_
 obtain ⟨x4,hy',h0'⟩:=zbi h0'
 refine zO H' (fun _=>[]) (W_spec_l03All _ _ _ hy') ?_
 refine ops H' ?_
 refine zE ?_
 refine retN ?_
 obtain rfl:=zso h0'
 exact outG H' rfl rfl
theorem W_spec_l04Ok (a:List ByteArray) (r':Bool) (h0':spec_l04Ok a=some r'):Fn X 205 [.one (.list false 1 (List.map rS a))] [.one (.sc (.bool r'))] []:=by
 have H':=R_s
 unfold spec_l04Ok at h0'
 refine Fn.start (fn:=f205) (N:=5) (res:=[.tmp 2]) rfl rfl rfl rfl rfl (by simp) ?_
 refine zW H' ?_
 refine zC ?_
 refine zB ?_
 refine ops H' ?_
 refine zE ?_
 refine zC ?_
 refine zB ?_
 refine ops H' ?_
 obtain ⟨x4,hy',h0'⟩:=zbi h0'
 refine zO H' (fun _=>[]) (W_spec_l03All _ _ _ hy') ?_
 refine ops H' ?_
 refine zE ?_
 refine retN ?_
 obtain rfl:=zso h0'
 exact outG H' rfl rfl
theorem W_spec_l04Table (a:List ByteArray) (b:List ByteArray) (r':(List (List Int))) (h0':spec_l04Table a b=some r'):Fn X 206 [.one (.list false 1 (List.map rS a)),.one (.list false 1 (List.map rS b))] [.one (.list true 1 (List.map (rL true 1 (rK .i64)) r'))] []:=by
 have H':=And.intro t3 (And.intro t9 (And.intro t38 (And.intro t44 (And.intro t55 (And.intro R_Li64 (And.intro R_i64 (R_s)))))))
 unfold spec_l04Table at h0'
 refine Fn.start (fn:=f206) (N:=92) (res:=[.tmp 4]) rfl rfl rfl rfl rfl (by simp) ?_
 refine zW H' ?_
 refine zC ?_
 refine zB ?_
 refine ops H' ?_
 refine zE ?_
 refine zC ?_
 refine zB ?_
 obtain ⟨x12,hv',h0'⟩:=zbi h0'
 have H':=And.intro (mklR_f (rL true 1 (rK .i64)) [.list true 1 []] (by rfl) hv') H'
 refine ops H' ?_
 refine zE ?_
 refine zU (fun e'=>∃ t,spec_l04Table_j1 t=some r'∧e'=⟨92,2,3,[(5,.pl (.one (.ref 2 [])))],[(2,.list true 1 (List.map (rL true 1 (rK .i64)) t))]⟩) ?_ ?_
 ·refine zC ?_
  refine zB ?_
  refine ops H' ?_
  refine zE ?_
  obtain ⟨p,hl',h0'⟩:=zbi h0'
  refine zJ ?_
  refine zX (fun s' e'=>∃ i t_1,s'=(i,t_1)∧e'=⟨92,2,3,[(0,.pl (.one (.v (.list false 1 (List.map rS a))))),(1,.pl (.one (.v (.list false 1 (List.map rS b))))),(5,.pl (.one (.ref 2 []))),(6,.pl (.one (.v (.sc (.int .i64 i)))))],[(2,.list true 1 (List.map (rL true 1 (rK .i64)) t_1))]⟩) hl' (shd [0,1,5,6] [(3,2)] 3 ⟨_,_,rfl,rfl⟩) ?_
  rintro s' y1' e' h1' ⟨i,t_1,rfl,rfl⟩
  replace h1':qT a b i t_1=some y1':=h1'
  unfold qT at h1'
  refine zC ?_
  refine zC ?_
  refine zB ?_
  refine ops H' ?_
  refine zE ?_
  refine zH (fun hc'=>?_) (fun hc'=>?_)
  ·replace h1':=(ifT hc').symm.trans h1'
   refine zR ?_
   refine zU (fun e'=>∃ t_2,spec_l04Table_j2 i t_2=some y1'∧e'=⟨92,2,3,[(0,.pl (.one (.v (.list false 1 (List.map rS a))))),(1,.pl (.one (.v (.list false 1 (List.map rS b))))),(5,.pl (.one (.ref 2 []))),(6,.pl (.one (.v (.sc (.int .i64 i)))))],[(2,.list true 1 (List.map (rL true 1 (rK .i64)) t_2))]⟩) ?_ ?_
   ·refine zJ ?_
    refine zC ?_
    refine zB ?_
    obtain ⟨x24,hv',h1'⟩:=zbi h1'
    have H':=And.intro (mkl_f hv') H'
    obtain ⟨x,hv',h1'⟩:=zbi h1'
    have H':=And.intro (zP hv') H'
    refine ops H' ?_
    refine zE ?_
    refine zC ?_
    refine zB ?_
    refine ops H' ?_
    refine zE ?_
    obtain ⟨p_1,hl',h1'⟩:=zbi h1'
    refine zJ ?_
    refine zX (fun s' e'=>∃ j t_3,s'=(j,t_3)∧e'=⟨92,2,3,[(0,.pl (.one (.v (.list false 1 (List.map rS a))))),(1,.pl (.one (.v (.list false 1 (List.map rS b))))),(5,.pl (.one (.ref 2 []))),(6,.pl (.one (.v (.sc (.int .i64 i))))),(7,.pl (.one (.v (.sc (.int .i64 j)))))],[(2,.list true 1 (List.map (rL true 1 (rK .i64)) t_3))]⟩) hl' (shd [0,1,5,6,7] [(2,2)] 3 ⟨_,_,rfl,rfl⟩) ?_
    rintro s' y2' e' h2' ⟨j,t_3,rfl,rfl⟩
    replace h2':qM a b i j t_3=some y2':=h2'
    unfold qM at h2'
    refine zC ?_
    refine zC ?_
    refine zB ?_
    refine ops H' ?_
    obtain ⟨b_1,gh2',h2'⟩:=zbi h2'
    refine qG 5 (fun e'=>e'=⟨92,2,3,[(0,.pl (.one (.v (.list false 1 (List.map rS a))))),(1,.pl (.one (.v (.list false 1 (List.map rS b))))),(5,.pl (.one (.ref 2 []))),(6,.pl (.one (.v (.sc (.int .i64 i))))),(7,.pl (.one (.v (.sc (.int .i64 j))))),(36,.pl (.one (.v (.sc (.bool b_1)))))],[(2,.list true 1 (List.map (rL true 1 (rK .i64)) t_3))]⟩) ?_ ?_
    ·simp only [List.take_succ_cons,List.take_zero]
     refine opsV_sp (fun hc'=>?_) (fun hc'=>?_)
     ·replace gh2':=(ifT hc').symm.trans gh2'
      refine ops H' ?_
      obtain rfl:=zso gh2'
      refine zD ?_
      exact ⟨rfl,shd [0,1,5,6,7,36] [(2,2)] 3 rfl⟩
     ·replace gh2':=(ifF hc').symm.trans gh2'
      refine ops H' ?_
      obtain rfl:=zso gh2'
      refine zD ?_
      exact ⟨rfl,shd [0,1,5,6,7,36] [(2,2)] 3 rfl⟩
    ·rintro e' rfl
     simp only [List.drop_succ_cons,List.drop_zero]
     refine zE ?_
     refine zH (fun hc'=>?_) (fun hc'=>?_)
     ·replace h2':=(ifT hc').symm.trans h2'
      refine zR ?_
      refine zC ?_
      refine zJ ?_
      refine zC ?_
      refine zB ?_
      obtain ⟨x_1,hv',h2'⟩:=zbi h2'
      have H':=And.intro (zP hv') H'
      obtain ⟨x_2,hv',h2'⟩:=zbi h2'
      have H':=And.intro (zP hv') H'
      refine ops H' ?_
      refine zE ?_
      refine zU (fun e'=>∃ x_3,spec_l04Table_j3 a b i j t_3 x_3=some y2'∧e'=⟨92,2,3,[(0,.pl (.one (.v (.list false 1 (List.map rS a))))),(1,.pl (.one (.v (.list false 1 (List.map rS b))))),(5,.pl (.one (.ref 2 []))),(6,.pl (.one (.v (.sc (.int .i64 i))))),(7,.pl (.one (.v (.sc (.int .i64 j))))),(8,.pl (.one (.v (.sc (.int .i64 x_3)))))],[(2,.list true 1 (List.map (rL true 1 (rK .i64)) t_3))]⟩) ?_ ?_
      ·refine zC ?_
       refine zB ?_
       obtain ⟨x_11,hv',h2'⟩:=zbi h2'
       have H':=And.intro (zP hv') H'
       obtain ⟨x_12,hv',h2'⟩:=zbi h2'
       have H':=And.intro (zP hv') H'
       refine ops H' ?_
       refine zE ?_
       refine zH (fun hc'=>?_) (fun hc'=>?_)
       ·replace h2':=(ifT hc').symm.trans h2'
        refine zB ?_
        refine ops H' ?_
        refine zE ?_
        exact shd [0,1,5,6,7,8] [(2,2)] 3 ⟨_,h2',rfl⟩
       ·replace h2':=(ifF hc').symm.trans h2'
        refine zR ?_
        exact shd [0,1,5,6,7,8] [(2,2)] 3 ⟨_,h2',rfl⟩
      ·rintro e' ⟨x_3,h2',rfl⟩
       unfold spec_l04Table_j3 at h2'
       refine zU (fun e'=>∃ x_4,spec_l04Table_j4 i j t_3 x_4=some y2'∧e'=⟨92,2,3,[(0,.pl (.one (.v (.list false 1 (List.map rS a))))),(1,.pl (.one (.v (.list false 1 (List.map rS b))))),(5,.pl (.one (.ref 2 []))),(6,.pl (.one (.v (.sc (.int .i64 i))))),(7,.pl (.one (.v (.sc (.int .i64 j))))),(8,.pl (.one (.v (.sc (.int .i64 x_4)))))],[(2,.list true 1 (List.map (rL true 1 (rK .i64)) t_3))]⟩) ?_ ?_
       ·refine zC ?_
        refine regQ ?_
        obtain ⟨x_7,hv',h2'⟩:=zbi h2'
        have H':=And.intro (zP hv') H'
        obtain ⟨x_8,hv',h2'⟩:=zbi h2'
        have H':=And.intro (zP hv') H'
        refine ops H' ?_
        refine quN ?_
        refine zH (fun hc'=>?_) (fun hc'=>?_)
        ·replace h2':=(ifT hc').symm.trans h2'
         refine zB ?_
         obtain ⟨x_9,hv',h2'⟩:=zbi h2'
         have H':=And.intro (zP hv') H'
         obtain ⟨x_10,hv',h2'⟩:=zbi h2'
         have H':=And.intro (zP hv') H'
         refine ops H' ?_
         refine zE ?_
         exact shd [0,1,5,6,7,8] [(2,2)] 3 ⟨_,h2',rfl⟩
        ·replace h2':=(ifF hc').symm.trans h2'
         refine zR ?_
         exact shd [0,1,5,6,7,8] [(2,2)] 3 ⟨_,h2',rfl⟩
       ·rintro e' ⟨x_4,h2',rfl⟩
        unfold spec_l04Table_j4 at h2'
        refine zB ?_
        obtain ⟨x_5,hv',h2'⟩:=zbi h2'
        have H':=And.intro (zP hv') H'
        obtain ⟨x_6,hv',h2'⟩:=zbi h2'
        have H':=And.intro (zP hv') H'
        refine ops H' ?_
        refine zE ?_
        refine zB ?_
        refine ops H' ?_
        refine zE ?_
        obtain rfl:=zso h2'
        exact shd [0,1,5,6,7] [(2,2)] 3 ⟨_,rfl,_,_,rfl,rfl⟩
     ·replace h2':=(ifF hc').symm.trans h2'
      refine exitN ?_
      obtain rfl:=zso h2'
      refine ⟨_,rfl,fun hr'=>?_⟩
      subst hr'
      exact shd [0,1,5,6] [(2,2)] 3 ⟨_,h1',rfl⟩
   ·rintro e' ⟨t_2,h1',rfl⟩
    unfold spec_l04Table_j2 at h1'
    refine zB ?_
    refine ops H' ?_
    refine zE ?_
    obtain rfl:=zso h1'
    exact shd [0,1,5,6] [(2,2)] 3 ⟨_,rfl,_,_,rfl,rfl⟩
  ·replace h1':=(ifF hc').symm.trans h1'
   refine exitN ?_
   obtain rfl:=zso h1'
   refine ⟨_,rfl,fun hr'=>?_⟩
   subst hr'
   exact shd [5] [(2,2)] 3 ⟨_,h0',rfl⟩
 ·rintro e' ⟨t,h0',rfl⟩
  unfold spec_l04Table_j1 at h0'
  refine zC ?_
  refine zB ?_
  refine ops H' ?_
  refine zE ?_
  refine retN ?_
  obtain rfl:=zso h0'
  exact outG H' rfl rfl
theorem W_spec_Align (a:List ByteArray) (b:List ByteArray) (r':(List Int)) (h0':spec_Align a b=some r'):Fn X 193 [.one (.list false 1 (List.map rS a)),.one (.list false 1 (List.map rS b))] [.one (.list true 1 (List.map (rK .i64) r'))] []:=by
 have H':=And.intro t3 (And.intro t9 (And.intro t38 (And.intro t44 (And.intro t55 (And.intro R_Li64 (And.intro R_i64 (R_s)))))))
 unfold spec_Align at h0'
 refine Fn.start (fn:=f193) (N:=83) (res:=[.tmp 4]) rfl rfl rfl rfl rfl (by simp) ?_
 refine zW H' ?_
 refine zC ?_
 refine zB ?_
 refine ops H' ?_
 refine zE ?_
 refine zC ?_
 refine zB ?_
 refine ops H' ?_
 refine zE ?_
 refine zC ?_
 refine zC ?_
 refine zB ?_
 refine ops H' ?_
 obtain ⟨x11,hy',h0'⟩:=zbi h0'
 refine zO H' (fun _=>[]) (W_spec_l04Ok _ _ hy') ?_
 refine ops H' ?_
 obtain ⟨b_1,gh0',h0'⟩:=zbi h0'
 refine qG 4 (fun e'=>e'=⟨83,2,3,[(0,.pl (.one (.v (.list false 1 (List.map rS a))))),(1,.pl (.one (.v (.list false 1 (List.map rS b))))),(5,.pl (.one (.ref 2 []))),(17,.pl (.one (.v (.sc (.bool b_1)))))],[(2,.list true 1 (List.map (rK .i64) []))]⟩) ?_ ?_
 ·simp only [List.take_succ_cons,List.take_zero]
  refine opsV_sp (fun hc'=>?_) (fun hc'=>?_)
  ·replace gh0':=(ifF hc').symm.trans gh0'
   refine ops H' ?_
   obtain ⟨x15,hy',gh0'⟩:=zbi gh0'
   refine zO H' (fun _=>[]) (W_spec_l04Ok _ _ hy') ?_
   refine ops H' ?_
   obtain rfl:=zso gh0'
   refine zD ?_
   exact ⟨rfl,shd [0,1,5,17] [(3,2)] 3 rfl⟩
  ·replace gh0':=(ifT hc').symm.trans gh0'
   refine ops H' ?_
   obtain rfl:=zso gh0'
   refine zD ?_
   exact ⟨rfl,shd [0,1,5,17] [(3,2)] 3 rfl⟩
 ·rintro e' rfl
  simp only [List.drop_succ_cons,List.drop_zero]
  refine zE ?_
  refine zH (fun hc'=>?_) (fun hc'=>?_)
  ·replace h0':=(ifT hc').symm.trans h0'
   refine zC ?_
   refine zB ?_
   refine ops H' ?_
   refine zE ?_
   refine retN ?_
   obtain rfl:=zso h0'
   exact outG H' rfl rfl
  ·replace h0':=(ifF hc').symm.trans h0'
   refine zR ?_
   refine zC ?_
   refine zB ?_
   refine ops H' ?_
   obtain ⟨x21,hy',h0'⟩:=zbi h0'
   refine zO H' (fun _=>[]) (W_spec_l04Table _ _ _ hy') ?_
   refine ops H' ?_
   refine zE ?_
   refine zC ?_
   refine zB ?_
   refine ops H' ?_
   refine zE ?_
   refine zC ?_
   refine zB ?_
   refine ops H' ?_
   refine zE ?_
   refine zU (fun e'=>∃ j out_,spec_Align_j1 b j out_=some r'∧e'=⟨83,2,3,[(1,.pl (.one (.v (.list false 1 (List.map rS b))))),(5,.pl (.one (.ref 2 []))),(8,.pl (.one (.v (.sc (.int .i64 j)))))],[(2,.list true 1 (List.map (rK .i64) out_))]⟩) ?_ ?_
   ·obtain ⟨p_1,hl',h0'⟩:=zbi h0'
    refine zJ ?_
    refine zX (fun s' e'=>∃ i j_2 out__3,s'=(i,j_2,out__3)∧e'=⟨83,2,4,[(0,.pl (.one (.v (.list false 1 (List.map rS a))))),(1,.pl (.one (.v (.list false 1 (List.map rS b))))),(5,.pl (.one (.ref 2 []))),(6,.pl (.one (.ref 3 []))),(7,.pl (.one (.v (.sc (.int .i64 i))))),(8,.pl (.one (.v (.sc (.int .i64 j_2)))))],[(2,.list true 1 (List.map (rK .i64) out__3)),(3,.list true 1 (List.map (rL true 1 (rK .i64)) x21))]⟩) hl' (shd [0,1,5,6,7,8] [(2,2),(3,3)] 4 ⟨_,_,_,rfl,rfl⟩) ?_
    rintro s' y1' e' h1' ⟨i,j_2,out__3,rfl,rfl⟩
    replace h1':spec_Align_l2 a b x21 i j_2 out__3=some y1':=h1'
    unfold spec_Align_l2 at h1'
    refine zC ?_
    refine zC ?_
    refine zB ?_
    refine ops H' ?_
    obtain ⟨b_2,gh1',h1'⟩:=zbi h1'
    refine qG 5 (fun e'=>e'=⟨83,2,4,[(0,.pl (.one (.v (.list false 1 (List.map rS a))))),(1,.pl (.one (.v (.list false 1 (List.map rS b))))),(5,.pl (.one (.ref 2 []))),(6,.pl (.one (.ref 3 []))),(7,.pl (.one (.v (.sc (.int .i64 i))))),(8,.pl (.one (.v (.sc (.int .i64 j_2))))),(31,.pl (.one (.v (.sc (.bool b_2)))))],[(2,.list true 1 (List.map (rK .i64) out__3)),(3,.list true 1 (List.map (rL true 1 (rK .i64)) x21))]⟩) ?_ ?_
    ·simp only [List.take_succ_cons,List.take_zero]
     refine opsV_sp (fun hc'=>?_) (fun hc'=>?_)
     ·replace gh1':=(ifT hc').symm.trans gh1'
      refine ops H' ?_
      obtain rfl:=zso gh1'
      refine zD ?_
      exact ⟨rfl,shd [0,1,5,6,7,8,31] [(2,2),(3,3)] 4 rfl⟩
     ·replace gh1':=(ifF hc').symm.trans gh1'
      refine ops H' ?_
      obtain rfl:=zso gh1'
      refine zD ?_
      exact ⟨rfl,shd [0,1,5,6,7,8,31] [(2,2),(3,3)] 4 rfl⟩
    ·rintro e' rfl
     simp only [List.drop_succ_cons,List.drop_zero]
     refine zE ?_
     refine zH (fun hc'=>?_) (fun hc'=>?_)
     ·replace h1':=(ifT hc').symm.trans h1'
      refine zR ?_
      refine zJ ?_
      refine zC ?_
      refine regQ ?_
      obtain ⟨x,hv',h1'⟩:=zbi h1'
      have H':=And.intro (zP hv') H'
      obtain ⟨x_1,hv',h1'⟩:=zbi h1'
      have H':=And.intro (zP hv') H'
      refine ops H' ?_
      refine quN ?_
      refine zH (fun hc'=>?_) (fun hc'=>?_)
      ·replace h1':=(ifT hc').symm.trans h1'
       refine zC ?_
       refine zB ?_
       obtain ⟨l_1,hv',h1'⟩:=zbi h1'
       have H':=And.intro (app1_f hv') H'
       refine ops H' ?_
       refine zE ?_
       refine zC ?_
       refine zB ?_
       refine ops H' ?_
       refine zE ?_
       refine zB ?_
       refine ops H' ?_
       refine zE ?_
       obtain rfl:=zso h1'
       exact shd [0,1,5,6,7,8] [(2,2),(3,3)] 4 ⟨_,rfl,_,_,_,rfl,rfl⟩
      ·replace h1':=(ifF hc').symm.trans h1'
       refine zC ?_
       refine regQ ?_
       obtain ⟨x_2,hv',h1'⟩:=zbi h1'
       have H':=And.intro (zP hv') H'
       obtain ⟨x_3,hv',h1'⟩:=zbi h1'
       have H':=And.intro (zP hv') H'
       obtain ⟨x_4,hv',h1'⟩:=zbi h1'
       have H':=And.intro (zP hv') H'
       obtain ⟨x_5,hv',h1'⟩:=zbi h1'
       have H':=And.intro (zP hv') H'
       refine ops H' ?_
       refine quN ?_
       refine zH (fun hc'=>?_) (fun hc'=>?_)
       ·replace h1':=(ifT hc').symm.trans h1'
        refine zB ?_
        refine ops H' ?_
        refine zE ?_
        obtain rfl:=zso h1'
        exact shd [0,1,5,6,7,8] [(2,2),(3,3)] 4 ⟨_,rfl,_,_,_,rfl,rfl⟩
       ·replace h1':=(ifF hc').symm.trans h1'
        refine zC ?_
        refine zB ?_
        obtain ⟨l_2,hv',h1'⟩:=zbi h1'
        have H':=And.intro (app1_f hv') H'
        refine ops H' ?_
        refine zE ?_
        refine zB ?_
        refine ops H' ?_
        refine zE ?_
        obtain rfl:=zso h1'
        exact shd [0,1,5,6,7,8] [(2,2),(3,3)] 4 ⟨_,rfl,_,_,_,rfl,rfl⟩
     ·replace h1':=(ifF hc').symm.trans h1'
      refine exitN ?_
      obtain rfl:=zso h1'
      refine ⟨_,rfl,fun hr'=>?_⟩
      subst hr'
      exact shd [1,5,8] [(2,2)] 3 ⟨_,_,h0',rfl⟩
   ·rintro e' ⟨j,out_,h0',rfl⟩
    unfold spec_Align_j1 at h0'
    refine zU (fun e'=>∃ out__1,spec_Align_j2 out__1=some r'∧e'=⟨83,2,3,[(5,.pl (.one (.ref 2 [])))],[(2,.list true 1 (List.map (rK .i64) out__1))]⟩) ?_ ?_
    ·obtain ⟨p,hl',h0'⟩:=zbi h0'
     refine zJ ?_
     refine zX (fun s' e'=>∃ j_1 out__2,s'=(j_1,out__2)∧e'=⟨83,2,3,[(1,.pl (.one (.v (.list false 1 (List.map rS b))))),(5,.pl (.one (.ref 2 []))),(8,.pl (.one (.v (.sc (.int .i64 j_1)))))],[(2,.list true 1 (List.map (rK .i64) out__2))]⟩) hl' (shd [1,5,8] [(2,2)] 3 ⟨_,_,rfl,rfl⟩) ?_
     rintro s' y1' e' h1' ⟨j_1,out__2,rfl,rfl⟩
     replace h1':spec_Align_l1 b j_1 out__2=some y1':=h1'
     unfold spec_Align_l1 at h1'
     refine zC ?_
     refine zC ?_
     refine zB ?_
     refine ops H' ?_
     refine zE ?_
     refine zH (fun hc'=>?_) (fun hc'=>?_)
     ·replace h1':=(ifT hc').symm.trans h1'
      refine zR ?_
      refine zC ?_
      refine zJ ?_
      refine zB ?_
      obtain ⟨l,hv',h1'⟩:=zbi h1'
      have H':=And.intro (app1_f hv') H'
      refine ops H' ?_
      refine zE ?_
      refine zB ?_
      refine ops H' ?_
      refine zE ?_
      obtain rfl:=zso h1'
      exact shd [1,5,8] [(2,2)] 3 ⟨_,rfl,_,_,rfl,rfl⟩
     ·replace h1':=(ifF hc').symm.trans h1'
      refine exitN ?_
      obtain rfl:=zso h1'
      refine ⟨_,rfl,fun hr'=>?_⟩
      subst hr'
      exact shd [5] [(2,2)] 3 ⟨_,h0',rfl⟩
    ·rintro e' ⟨out__1,h0',rfl⟩
     unfold spec_Align_j2 at h0'
     refine zC ?_
     refine zB ?_
     refine ops H' ?_
     refine zE ?_
     refine retN ?_
     obtain rfl:=zso h0'
     exact outG H' rfl rfl
end Go.TV.KFnLives
