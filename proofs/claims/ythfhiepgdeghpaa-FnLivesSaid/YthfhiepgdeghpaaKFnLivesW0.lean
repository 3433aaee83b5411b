/- Walks. -/
import Derived.Test.YthfhiepgdeghpaaKFnLivesE
set_option linter.unusedVariables false
set_option linter.unusedSimpArgs false
set_option maxHeartbeats 8000000
set_option maxRecDepth 100000
namespace Go.TV.KFnLives
attribute [local irreducible] anyV wpV opsV Does thenV blockV RetL quV seqV
open Go.Proofs.Try Go.TV.F
theorem W_laws_big (code:List Int) (r':Bool) (h0':laws_big code=some r'):Fn X 22 [.one (.list false 1 (List.map (rK .u8) code))] [.one (.sc (.bool r'))] []:=by
 have H':=And.intro t3 (And.intro t36 (R_u8))
 unfold laws_big at h0'
 refine Fn.start (fn:=f22) (N:=6) (res:=[.tmp 2]) rfl rfl rfl rfl rfl (by simp) ?_
 refine zW H' ?_
 refine zC ?_
 refine zB ?_
 refine ops H' ?_
 refine zE ?_
 refine zC ?_
 refine zB ?_
 refine ops H' ?_
 refine zE ?_
 refine retN ?_
 obtain rfl:=zso h0'
 exact outG H' rfl rfl
theorem W_spec_l01New (code:List Int) (r':T_spec_l01Cur) (h0':spec_l01New code=some r'):Fn X 83 [.one (.list false 1 (List.map (rK .u8) code))] [.one (.box true [.list false 1 (List.map (rK .u8) r'.b),.sc (.int .i64 r'.i),.sc (.int .i64 r'.h)])] []:=by
 have H':=And.intro t3 (And.intro t5 (And.intro t36 (And.intro t190 (R_u8))))
 unfold spec_l01New at h0'
 refine Fn.start (fn:=f83) (N:=32) (res:=[.tmp 2]) rfl rfl rfl rfl rfl (by simp) ?_
 refine zW H' ?_
 refine zC ?_
 refine zB ?_
 refine ops H' ?_
 refine zE ?_
 refine zC ?_
 refine zB ?_
 refine ops H' ?_
 refine zE ?_
 refine zU (fun e'=>∃ h,spec_l01New_j1 code h=some r'∧e'=⟨32,1,1,[(0,.pl (.one (.v (.list false 1 (List.map (rK .u8) code))))),(3,.pl (.one (.v (.sc (.int .i64 h)))))],[]⟩) ?_ ?_
 ·refine zC ?_
  refine zB ?_
  refine ops H' ?_
  refine zE ?_
  obtain ⟨p,hl',h0'⟩:=zbi h0'
  refine zJ ?_
  refine zX (fun s' e'=>∃ h_1 i,s'=(h_1,i)∧e'=⟨32,1,1,[(0,.pl (.one (.v (.list false 1 (List.map (rK .u8) code))))),(3,.pl (.one (.v (.sc (.int .i64 h_1))))),(4,.pl (.one (.v (.sc (.int .i64 i)))))],[]⟩) hl' (shd [0,3,4] [] 1 ⟨_,_,rfl,rfl⟩) ?_
  rintro s' y1' e' h1' ⟨h_1,i,rfl,rfl⟩
  replace h1':spec_l01New_l1 code h_1 i=some y1':=h1'
  unfold spec_l01New_l1 at h1'
  refine zC ?_
  refine zC ?_
  refine zB ?_
  refine ops H' ?_
  obtain ⟨b,gh1',h1'⟩:=zbi h1'
  refine qG 3 (fun e'=>e'=⟨32,1,1,[(0,.pl (.one (.v (.list false 1 (List.map (rK .u8) code))))),(3,.pl (.one (.v (.sc (.int .i64 h_1))))),(4,.pl (.one (.v (.sc (.int .i64 i))))),(15,.pl (.one (.v (.sc (.bool b)))))],[]⟩) ?_ ?_
  ·simp only [List.take_succ_cons,List.take_zero]
   refine opsV_sp (fun hc'=>?_) (fun hc'=>?_)
   ·replace gh1':=(ifT hc').symm.trans gh1'
    refine ops H' ?_
    obtain rfl:=zso gh1'
    refine zD ?_
    exact ⟨rfl,shd [0,3,4,15] [] 1 rfl⟩
   ·replace gh1':=(ifF hc').symm.trans gh1'
    refine ops H' ?_
    obtain rfl:=zso gh1'
    refine zD ?_
    exact ⟨rfl,shd [0,3,4,15] [] 1 rfl⟩
  ·rintro e' rfl
   simp only [List.drop_succ_cons,List.drop_zero]
   refine zE ?_
   refine zH (fun hc'=>?_) (fun hc'=>?_)
   ·replace h1':=(ifT hc').symm.trans h1'
    refine zR ?_
    refine zC ?_
    refine zJ ?_
    refine zB ?_
    obtain ⟨x,hv',h1'⟩:=zbi h1'
    have H':=And.intro (zP hv') H'
    refine ops H' ?_
    refine zE ?_
    refine zB ?_
    refine ops H' ?_
    refine zE ?_
    obtain rfl:=zso h1'
    exact shd [0,3,4] [] 1 ⟨_,rfl,_,_,rfl,rfl⟩
   ·replace h1':=(ifF hc').symm.trans h1'
    refine exitN ?_
    obtain rfl:=zso h1'
    refine ⟨_,rfl,fun hr'=>?_⟩
    subst hr'
    exact shd [0,3] [] 1 ⟨_,h0',rfl⟩
 ·rintro e' ⟨h,h0',rfl⟩
  unfold spec_l01New_j1 at h0'
  refine zC ?_
  refine zB ?_
  refine ops H' ?_
  refine zE ?_
  refine retN ?_
  obtain rfl:=zso h0'
  exact outG H' rfl rfl
theorem W_spec_l06Size (code:List Int) (r':Int) (h0':spec_l06Size code=some r'):Fn X 86 [.one (.list false 1 (List.map (rK .u8) code))] [.one (.sc (.int .i64 r'))] []:=by
 have H':=And.intro t3 (And.intro t36 (R_u8))
 unfold spec_l06Size at h0'
 refine Fn.start (fn:=f86) (N:=11) (res:=[.tmp 2]) rfl rfl rfl rfl rfl (by simp) ?_
 refine zW H' ?_
 refine zC ?_
 refine zB ?_
 refine ops H' ?_
 refine zE ?_
 refine zC ?_
 refine zB ?_
 refine ops H' ?_
 refine zE ?_
 refine zC ?_
 refine zC ?_
 refine zB ?_
 refine ops H' ?_
 refine zE ?_
 refine zH (fun hc'=>?_) (fun hc'=>?_)
 ·replace h0':=(ifT hc').symm.trans h0'
  refine zC ?_
  refine zB ?_
  refine ops H' ?_
  refine zE ?_
  refine retN ?_
  obtain rfl:=zso h0'
  exact outG H' rfl rfl
 ·replace h0':=(ifF hc').symm.trans h0'
  refine zR ?_
  refine zC ?_
  refine zB ?_
  refine ops H' ?_
  refine zE ?_
  refine retN ?_
  obtain rfl:=zso h0'
  exact outG H' rfl rfl
theorem W_spec_l01Byte (c:T_spec_l01Cur) (r':Int×T_spec_l01Cur) (h0':spec_l01Byte c=some r'):Fn X 165 [.one (.box true [.list false 1 (List.map (rK .u8) c.b),.sc (.int .i64 c.i),.sc (.int .i64 c.h)])] [.one (.sc (.int .i64 r'.1))] [(0,.box true [.list false 1 (List.map (rK .u8) r'.2.b),.sc (.int .i64 r'.2.i),.sc (.int .i64 r'.2.h)])]:=by
 have H':=And.intro t3 (And.intro t5 (And.intro t36 (And.intro t190 (R_u8))))
 unfold spec_l01Byte at h0'
 refine Fn.start (fn:=f165) (N:=58) (res:=[.tmp 2]) rfl rfl rfl rfl rfl (by simp) ?_
 refine zW H' ?_
 refine zC ?_
 refine zB ?_
 refine ops H' ?_
 refine zE ?_
 refine zC ?_
 refine zB ?_
 refine ops H' ?_
 refine zE ?_
 refine zC ?_
 refine regQ ?_
 refine ops H' ?_
 refine quN ?_
 refine zC ?_
 refine zC ?_
 refine regQ ?_
 refine ops H' ?_
 refine quN ?_
 refine zH (fun hc'=>?_) (fun hc'=>?_)
 ·replace h0':=(ifT hc').symm.trans h0'
  refine zC ?_
  refine regQ ?_
  obtain ⟨x,hv',h0'⟩:=zbi h0'
  have H':=And.intro (zP hv') H'
  refine ops H' ?_
  refine quN ?_
  refine zB ?_
  refine ops H' ?_
  refine zE ?_
  refine zC ?_
  refine zB ?_
  refine ops H' ?_
  refine zE ?_
  refine retN ?_
  obtain rfl:=zso h0'
  exact outG H' rfl rfl
 ·replace h0':=(ifF hc').symm.trans h0'
  refine zR ?_
  refine zC ?_
  refine zB ?_
  refine ops H' ?_
  refine zE ?_
  refine retN ?_
  obtain rfl:=zso h0'
  exact outG H' rfl rfl
theorem W_spec_l01Below (c:T_spec_l01Cur) (n:Int) (r':Int×T_spec_l01Cur) (h0':qP c n=some r'):Fn X 85 [.one (.box true [.list false 1 (List.map (rK .u8) c.b),.sc (.int .i64 c.i),.sc (.int .i64 c.h)]),.one (.sc (.int .i64 n))] [.one (.sc (.int .i64 r'.1))] [(0,.box true [.list false 1 (List.map (rK .u8) r'.2.b),.sc (.int .i64 r'.2.i),.sc (.int .i64 r'.2.h)])]:=by
 have H':=And.intro t3 (R_u8)
 unfold qP at h0'
 refine Fn.start (fn:=f85) (N:=37) (res:=[.tmp 4]) rfl rfl rfl rfl rfl (by simp) ?_
 refine zW H' ?_
 refine zC ?_
 refine zB ?_
 refine ops H' ?_
 refine zE ?_
 refine zC ?_
 refine zC ?_
 refine zB ?_
 refine ops H' ?_
 refine zE ?_
 refine zH (fun hc'=>?_) (fun hc'=>?_)
 ·replace h0':=(ifT hc').symm.trans h0'
  refine zC ?_
  refine zB ?_
  refine ops H' ?_
  refine zE ?_
  refine retN ?_
  obtain rfl:=zso h0'
  exact outG H' rfl rfl
 ·replace h0':=(ifF hc').symm.trans h0'
  refine zR ?_
  refine zC ?_
  refine zC ?_
  refine zB ?_
  refine ops H' ?_
  refine zE ?_
  refine zH (fun hc'=>?_) (fun hc'=>?_)
  ·replace h0':=(ifT hc').symm.trans h0'
   refine zC ?_
   refine zB ?_
   refine ops H' ?_
   obtain ⟨x14,hy',h0'⟩:=zbi h0'
   refine callGD H' (fun _=>[0]) (W_spec_l01Byte _ _ hy') ?_
   obtain ⟨u,hv',h0'⟩:=zbi h0'
   have H':=And.intro (chkF hv') H'
   refine ops H' ?_
   refine zE ?_
   refine retN ?_
   obtain rfl:=zso h0'
   exact outG H' rfl rfl
  ·replace h0':=(ifF hc').symm.trans h0'
   refine zR ?_
   refine zC ?_
   refine zB ?_
   refine ops H' ?_
   obtain ⟨x18,hy',h0'⟩:=zbi h0'
   refine callGD H' (fun _=>[0]) (W_spec_l01Byte _ _ hy') ?_
   refine ops H' ?_
   refine zE ?_
   refine zC ?_
   refine zB ?_
   refine ops H' ?_
   obtain ⟨x20,hy',h0'⟩:=zbi h0'
   refine callGD H' (fun _=>[0]) (W_spec_l01Byte _ _ hy') ?_
   refine ops H' ?_
   refine zE ?_
   refine zC ?_
   refine zB ?_
   refine ops H' ?_
   obtain ⟨x22,hy',h0'⟩:=zbi h0'
   refine callGD H' (fun _=>[0]) (W_spec_l01Byte _ _ hy') ?_
   refine ops H' ?_
   refine zE ?_
   refine zC ?_
   refine zB ?_
   refine ops H' ?_
   obtain ⟨x24,hy',h0'⟩:=zbi h0'
   refine callGD H' (fun _=>[0]) (W_spec_l01Byte _ _ hy') ?_
   refine ops H' ?_
   refine zE ?_
   refine zC ?_
   refine zB ?_
   obtain ⟨u_1,hv',h0'⟩:=zbi h0'
   have H':=And.intro (chkF hv') H'
   refine ops H' ?_
   refine zE ?_
   refine retN ?_
   obtain rfl:=zso h0'
   exact outG H' rfl rfl
theorem W_spec_l01Once (c:T_spec_l01Cur) (n:Int) (r':Bool×T_spec_l01Cur) (h0':spec_l01Once c n=some r'):Fn X 162 [.one (.box true [.list false 1 (List.map (rK .u8) c.b),.sc (.int .i64 c.i),.sc (.int .i64 c.h)]),.one (.sc (.int .i64 n))] [.one (.sc (.bool r'.1))] [(0,.box true [.list false 1 (List.map (rK .u8) r'.2.b),.sc (.int .i64 r'.2.i),.sc (.int .i64 r'.2.h)])]:=by
 have H':=And.intro t3 (R_u8)
 unfold spec_l01Once at h0'
 refine Fn.start (fn:=f162) (N:=9) (res:=[.tmp 4]) rfl rfl rfl rfl rfl (by simp) ?_
 refine zW H' ?_
 refine zC ?_
 refine zB ?_
 refine ops H' ?_
 refine zE ?_
 refine zC ?_
 refine zB ?_
 refine ops H' ?_
 obtain ⟨x7,hy',h0'⟩:=zbi h0'
 refine callGD H' (fun _=>[0]) (W_spec_l01Below _ _ _ hy') ?_
 refine ops H' ?_
 refine zE ?_
 refine retN ?_
 obtain rfl:=zso h0'
 exact outG H' rfl rfl
theorem W_spec_l05Parents (c:T_spec_l01Cur) (n:Int) (r':(List Int)×T_spec_l01Cur) (h0':spec_l05Parents c n=some r'):Fn X 160 [.one (.box true [.list false 1 (List.map (rK .u8) c.b),.sc (.int .i64 c.i),.sc (.int .i64 c.h)]),.one (.sc (.int .i64 n))] [.one (.list true 1 (List.map (rK .i64) r'.1))] [(0,.box true [.list false 1 (List.map (rK .u8) r'.2.b),.sc (.int .i64 r'.2.i),.sc (.int .i64 r'.2.h)])]:=by
 have H':=And.intro t3 (And.intro t44 (And.intro R_i64 (R_u8)))
 unfold spec_l05Parents at h0'
 refine Fn.start (fn:=f160) (N:=38) (res:=[.tmp 4]) rfl rfl rfl rfl rfl (by simp) ?_
 refine zW H' ?_
 refine zC ?_
 refine zB ?_
 refine ops H' ?_
 refine zE ?_
 refine zC ?_
 refine zB ?_
 refine ops H' ?_
 refine zE ?_
 refine zU (fun e'=>∃ c_1 c_2 c_3 out_,spec_l05Parents_j1 c_1 c_2 c_3 out_=some r'∧e'=⟨38,2,3,[(5,.pl (.one (.ref 2 [])))],[(0,.box true [.list false 1 (List.map (rK .u8) c_1),.sc (.int .i64 c_2),.sc (.int .i64 c_3)]),(2,.list true 1 (List.map (rK .i64) out_))]⟩) ?_ ?_
 ·refine zC ?_
  refine zB ?_
  refine ops H' ?_
  refine zE ?_
  obtain ⟨p,hl',h0'⟩:=zbi h0'
  refine zJ ?_
  refine zX (fun s' e'=>∃ v c_4 c_5 c_6 out__1,s'=(v,c_4,c_5,c_6,out__1)∧e'=⟨38,2,3,[(0,.pl (.one (.ref 0 []))),(1,.pl (.one (.v (.sc (.int .i64 n))))),(5,.pl (.one (.ref 2 []))),(6,.pl (.one (.v (.sc (.int .i64 v)))))],[(0,.box true [.list false 1 (List.map (rK .u8) c_4),.sc (.int .i64 c_5),.sc (.int .i64 c_6)]),(2,.list true 1 (List.map (rK .i64) out__1))]⟩) hl' (shd [0,1,5,6] [(0,0),(3,2)] 3 ⟨_,_,_,_,_,rfl,rfl⟩) ?_
  rintro s' y1' e' h1' ⟨v,c_4,c_5,c_6,out__1,rfl,rfl⟩
  replace h1':spec_l05Parents_l1 n v c_4 c_5 c_6 out__1=some y1':=h1'
  unfold spec_l05Parents_l1 at h1'
  refine zC ?_
  refine zC ?_
  refine zB ?_
  refine ops H' ?_
  refine zE ?_
  refine zH (fun hc'=>?_) (fun hc'=>?_)
  ·replace h1':=(ifT hc').symm.trans h1'
   refine zR ?_
   refine zC ?_
   refine zJ ?_
   refine zC ?_
   refine zB ?_
   refine ops H' ?_
   obtain ⟨b,gh1',h1'⟩:=zbi h1'
   refine qG 16 (fun e'=>e'=⟨38,2,3,[(0,.pl (.one (.ref 0 []))),(1,.pl (.one (.v (.sc (.int .i64 n))))),(5,.pl (.one (.ref 2 []))),(6,.pl (.one (.v (.sc (.int .i64 v))))),(32,.pl (.one (.v (.sc (.bool b.1)))))],[(0,.box true [.list false 1 (List.map (rK .u8) b.2.1),.sc (.int .i64 b.2.2.1),.sc (.int .i64 b.2.2.2)]),(2,.list true 1 (List.map (rK .i64) out__1))]⟩) ?_ ?_
   ·simp only [List.take_succ_cons,List.take_zero]
    refine opsV_sp (fun hc'=>?_) (fun hc'=>?_)
    ·replace gh1':=(ifT hc').symm.trans gh1'
     refine ops H' ?_
     obtain ⟨b_1,ggh1',gh1'⟩:=zbi gh1'
     refine qG 4 (fun e'=>e'=⟨38,2,3,[(0,.pl (.one (.ref 0 []))),(1,.pl (.one (.v (.sc (.int .i64 n))))),(5,.pl (.one (.ref 2 []))),(6,.pl (.one (.v (.sc (.int .i64 v))))),(16,.pl (.one (.v (.sc (.bool true))))),(17,.pl (.one (.v (.sc (.int .i64 v))))),(18,.pl (.one (.v (.sc (.int .i64 n))))),(19,.pl (.one (.v (.sc (.int .i64 (wk .i64 (n - 1))))))),(20,.pl (.one (.v (.sc (.bool (v == (wk .i64 (n - 1)))))))),(25,.pl (.one (.v (.sc (.bool b_1.1)))))],[(0,.box true [.list false 1 (List.map (rK .u8) b_1.2.1),.sc (.int .i64 b_1.2.2.1),.sc (.int .i64 b_1.2.2.2)]),(2,.list true 1 (List.map (rK .i64) out__1))]⟩) ?_ ?_
     ·simp only [List.take_succ_cons,List.take_zero]
      refine opsV_sp (fun hc'=>?_) (fun hc'=>?_)
      ·replace ggh1':=(ifT hc').symm.trans ggh1'
       refine ops H' ?_
       obtain ⟨x23,hy',ggh1'⟩:=zbi ggh1'
       refine callGD H' (fun _=>[0]) (W_spec_l01Once _ _ _ hy') ?_
       refine ops H' ?_
       obtain rfl:=zso ggh1'
       refine zD ?_
       exact ⟨rfl,shd [0,1,5,6,16,17,18,19,20,25] [(0,0),(2,2)] 3 rfl⟩
      ·replace ggh1':=(ifF hc').symm.trans ggh1'
       refine ops H' ?_
       obtain rfl:=zso ggh1'
       refine zD ?_
       exact ⟨rfl,shd [0,1,5,6,16,17,18,19,20,25] [(0,0),(2,2)] 3 rfl⟩
     ·rintro e' rfl
      simp only [List.drop_succ_cons,List.drop_zero]
      refine ops H' ?_
      obtain ⟨b_2,ggh1',gh1'⟩:=zbi gh1'
      refine qG 5 (fun e'=>e'=⟨38,2,3,[(0,.pl (.one (.ref 0 []))),(1,.pl (.one (.v (.sc (.int .i64 n))))),(5,.pl (.one (.ref 2 []))),(6,.pl (.one (.v (.sc (.int .i64 v))))),(16,.pl (.one (.v (.sc (.bool true))))),(17,.pl (.one (.v (.sc (.int .i64 v))))),(18,.pl (.one (.v (.sc (.int .i64 n))))),(19,.pl (.one (.v (.sc (.int .i64 (wk .i64 (n - 1))))))),(20,.pl (.one (.v (.sc (.bool (v == (wk .i64 (n - 1)))))))),(25,.pl (.one (.v (.sc (.bool b_1.1))))),(31,.pl (.one (.v (.sc (.bool b_2.1)))))],[(0,.box true [.list false 1 (List.map (rK .u8) b_2.2.1),.sc (.int .i64 b_2.2.2.1),.sc (.int .i64 b_2.2.2.2)]),(2,.list true 1 (List.map (rK .i64) out__1))]⟩) ?_ ?_
      ·simp only [List.take_succ_cons,List.take_zero]
       refine opsV_sp (fun hc'=>?_) (fun hc'=>?_)
       ·replace ggh1':=(ifF hc').symm.trans ggh1'
        refine ops H' ?_
        obtain ⟨x30,hy',ggh1'⟩:=zbi ggh1'
        refine callGD H' (fun _=>[0]) (W_spec_l01Once _ _ _ hy') ?_
        refine ops H' ?_
        obtain rfl:=zso ggh1'
        refine zD ?_
        exact ⟨rfl,shd [0,1,5,6,16,17,18,19,20,25,31] [(0,0),(2,2)] 3 rfl⟩
       ·replace ggh1':=(ifT hc').symm.trans ggh1'
        refine ops H' ?_
        obtain rfl:=zso ggh1'
        refine zD ?_
        exact ⟨rfl,shd [0,1,5,6,16,17,18,19,20,25,31] [(0,0),(2,2)] 3 rfl⟩
      ·rintro e' rfl
       simp only [List.drop_succ_cons,List.drop_zero]
       refine ops H' ?_
       obtain rfl:=zso gh1'
       refine zD ?_
       exact ⟨rfl,shd [0,1,5,6,32] [(0,0),(2,2)] 3 rfl⟩
    ·replace gh1':=(ifF hc').symm.trans gh1'
     refine ops H' ?_
     obtain rfl:=zso gh1'
     refine zD ?_
     exact ⟨rfl,shd [0,1,5,6,32] [(0,0),(2,2)] 3 rfl⟩
   ·rintro e' rfl
    simp only [List.drop_succ_cons,List.drop_zero]
    refine zE ?_
    refine zH (fun hc'=>?_) (fun hc'=>?_)
    ·replace h1':=(ifT hc').symm.trans h1'
     refine zB ?_
     obtain ⟨l,hv',h1'⟩:=zbi h1'
     have H':=And.intro (app1_f hv') H'
     refine ops H' ?_
     refine zE ?_
     refine zB ?_
     refine ops H' ?_
     refine zE ?_
     obtain rfl:=zso h1'
     exact shd [0,1,5,6] [(0,0),(2,2)] 3 ⟨_,rfl,_,_,_,_,_,rfl,rfl⟩
    ·replace h1':=(ifF hc').symm.trans h1'
     refine zR ?_
     refine zB ?_
     refine ops H' ?_
     refine zE ?_
     obtain rfl:=zso h1'
     exact shd [0,1,5,6] [(0,0),(2,2)] 3 ⟨_,rfl,_,_,_,_,_,rfl,rfl⟩
  ·replace h1':=(ifF hc').symm.trans h1'
   refine exitN ?_
   obtain rfl:=zso h1'
   refine ⟨_,rfl,fun hr'=>?_⟩
   subst hr'
   exact shd [5] [(0,0),(2,2)] 3 ⟨_,_,_,_,h0',rfl⟩
 ·rintro e' ⟨c_1,c_2,c_3,out_,h0',rfl⟩
  unfold spec_l05Parents_j1 at h0'
  refine zC ?_
  refine zB ?_
  refine ops H' ?_
  refine zE ?_
  refine retN ?_
  obtain rfl:=zso h0'
  exact outG H' rfl rfl
theorem W_spec_l01In (x:Int) (least:Int) (most:Int) (r':Bool) (h0':spec_l01In x least most=some r'):Fn X 71 [.one (.sc (.int .i64 x)),.one (.sc (.int .i64 least)),.one (.sc (.int .i64 most))] [.one (.sc (.bool r'))] []:=by
 have H':=t3
 unfold spec_l01In at h0'
 refine Fn.start (fn:=f71) (N:=15) (res:=[.tmp 6]) rfl rfl rfl rfl rfl (by simp) ?_
 refine zW H' ?_
 refine zC ?_
 refine zB ?_
 refine ops H' ?_
 refine zE ?_
 refine zC ?_
 refine zB ?_
 refine ops H' ?_
 obtain ⟨b,gh0',h0'⟩:=zbi h0'
 refine qG 4 (fun e'=>e'=⟨15,3,3,[(14,.pl (.one (.v (.sc (.bool b)))))],[]⟩) ?_ ?_
 ·simp only [List.take_succ_cons,List.take_zero]
  refine opsV_sp (fun hc'=>?_) (fun hc'=>?_)
  ·replace gh0':=(ifT hc').symm.trans gh0'
   refine ops H' ?_
   obtain rfl:=zso gh0'
   refine zD ?_
   exact ⟨rfl,shd [14] [] 3 rfl⟩
  ·replace gh0':=(ifF hc').symm.trans gh0'
   refine ops H' ?_
   obtain rfl:=zso gh0'
   refine zD ?_
   exact ⟨rfl,shd [14] [] 3 rfl⟩
 ·rintro e' rfl
  simp only [List.drop_succ_cons,List.drop_zero]
  refine ops H' ?_
  refine zE ?_
  refine retN ?_
  obtain rfl:=zso h0'
  exact outG H' rfl rfl
theorem W_spec_l05Set (parents:List (List Int)) (list_:List Int) (r':(List Bool)) (h0':spec_l05Set parents list_=some r'):Fn X 114 [.one (.list false 1 (List.map (rL false 1 (rK .i64)) parents)),.one (.list false 1 (List.map (rK .i64) list_))] [.one (.list true 1 (List.map rB r'))] []:=by
 have H':=And.intro t3 (And.intro t4 (And.intro t38 (And.intro t44 (And.intro t154 (And.intro R_Li64 (And.intro R_b (R_i64)))))))
 unfold spec_l05Set at h0'
 refine Fn.start (fn:=f114) (N:=64) (res:=[.tmp 4]) rfl rfl rfl rfl rfl (by simp) ?_
 refine zW H' ?_
 refine zC ?_
 refine zB ?_
 refine ops H' ?_
 refine zE ?_
 refine zC ?_
 refine zB ?_
 obtain ⟨x11,hv',h0'⟩:=zbi h0'
 have H':=And.intro (mkl_f hv') H'
 refine ops H' ?_
 refine zE ?_
 refine zU (fun e'=>∃ in_,spec_l05Set_j1 parents in_=some r'∧e'=⟨64,2,3,[(0,.pl (.one (.v (.list false 1 (List.map (rL false 1 (rK .i64)) parents))))),(5,.pl (.one (.ref 2 [])))],[(2,.list true 1 (List.map rB in_))]⟩) ?_ ?_
 ·refine zC ?_
  refine zB ?_
  refine ops H' ?_
  refine zE ?_
  obtain ⟨p_2,hl',h0'⟩:=zbi h0'
  refine zJ ?_
  refine zX (fun s' e'=>∃ i in__5,s'=(i,in__5)∧e'=⟨64,2,3,[(0,.pl (.one (.v (.list false 1 (List.map (rL false 1 (rK .i64)) parents))))),(1,.pl (.one (.v (.list false 1 (List.map (rK .i64) list_))))),(5,.pl (.one (.ref 2 []))),(6,.pl (.one (.v (.sc (.int .i64 i)))))],[(2,.list true 1 (List.map rB in__5))]⟩) hl' (shd [0,1,5,6] [(3,2)] 3 ⟨_,_,rfl,rfl⟩) ?_
  rintro s' y1' e' h1' ⟨i,in__5,rfl,rfl⟩
  replace h1':spec_l05Set_l3 parents list_ i in__5=some y1':=h1'
  unfold spec_l05Set_l3 at h1'
  refine zC ?_
  refine zC ?_
  refine zB ?_
  refine ops H' ?_
  refine zE ?_
  refine zH (fun hc'=>?_) (fun hc'=>?_)
  ·replace h1':=(ifT hc').symm.trans h1'
   refine zR ?_
   refine zC ?_
   refine zJ ?_
   refine zC ?_
   refine zB ?_
   obtain ⟨x_5,hv',h1'⟩:=zbi h1'
   have H':=And.intro (zP hv') H'
   refine ops H' ?_
   obtain ⟨x25,hy',h1'⟩:=zbi h1'
   refine zO H' (fun _=>[]) (W_spec_l01In _ _ _ _ hy') ?_
   refine zE ?_
   refine zH (fun hc'=>?_) (fun hc'=>?_)
   ·replace h1':=(ifT hc').symm.trans h1'
    refine zB ?_
    obtain ⟨x_6,hv',h1'⟩:=zbi h1'
    have H':=And.intro (zP hv') H'
    refine ops H' ?_
    refine zE ?_
    refine zB ?_
    refine ops H' ?_
    refine zE ?_
    obtain rfl:=zso h1'
    exact shd [0,1,5,6] [(2,2)] 3 ⟨_,rfl,_,_,rfl,rfl⟩
   ·replace h1':=(ifF hc').symm.trans h1'
    refine zR ?_
    refine zB ?_
    refine ops H' ?_
    refine zE ?_
    obtain rfl:=zso h1'
    exact shd [0,1,5,6] [(2,2)] 3 ⟨_,rfl,_,_,rfl,rfl⟩
  ·replace h1':=(ifF hc').symm.trans h1'
   refine exitN ?_
   obtain rfl:=zso h1'
   refine ⟨_,rfl,fun hr'=>?_⟩
   subst hr'
   exact shd [0,5] [(2,2)] 3 ⟨_,h0',rfl⟩
 ·rintro e' ⟨in_,h0',rfl⟩
  unfold spec_l05Set_j1 at h0'
  refine zU (fun e'=>∃ in__1,spec_l05Set_j2 in__1=some r'∧e'=⟨64,2,3,[(5,.pl (.one (.ref 2 [])))],[(2,.list true 1 (List.map rB in__1))]⟩) ?_ ?_
  ·refine zC ?_
   refine zB ?_
   refine ops H' ?_
   refine zE ?_
   obtain ⟨p,hl',h0'⟩:=zbi h0'
   refine zJ ?_
   refine zX (fun s' e'=>∃ v in__2,s'=(v,in__2)∧e'=⟨64,2,3,[(0,.pl (.one (.v (.list false 1 (List.map (rL false 1 (rK .i64)) parents))))),(5,.pl (.one (.ref 2 []))),(7,.pl (.one (.v (.sc (.int .i64 v)))))],[(2,.list true 1 (List.map rB in__2))]⟩) hl' (shd [0,5,7] [(2,2)] 3 ⟨_,_,rfl,rfl⟩) ?_
   rintro s' y1' e' h1' ⟨v,in__2,rfl,rfl⟩
   replace h1':spec_l05Set_l1 parents v in__2=some y1':=h1'
   unfold spec_l05Set_l1 at h1'
   refine zC ?_
   refine zC ?_
   refine zB ?_
   refine ops H' ?_
   refine zE ?_
   refine zH (fun hc'=>?_) (fun hc'=>?_)
   ·replace h1':=(ifT hc').symm.trans h1'
    refine zR ?_
    refine zU (fun e'=>∃ in__3,spec_l05Set_j3 v in__3=some y1'∧e'=⟨64,2,3,[(0,.pl (.one (.v (.list false 1 (List.map (rL false 1 (rK .i64)) parents))))),(5,.pl (.one (.ref 2 []))),(7,.pl (.one (.v (.sc (.int .i64 v)))))],[(2,.list true 1 (List.map rB in__3))]⟩) ?_ ?_
    ·refine zJ ?_
     refine zC ?_
     refine zB ?_
     refine ops H' ?_
     refine zE ?_
     obtain ⟨p_1,hl',h1'⟩:=zbi h1'
     refine zJ ?_
     refine zX (fun s' e'=>∃ k in__4,s'=(k,in__4)∧e'=⟨64,2,3,[(0,.pl (.one (.v (.list false 1 (List.map (rL false 1 (rK .i64)) parents))))),(5,.pl (.one (.ref 2 []))),(7,.pl (.one (.v (.sc (.int .i64 v))))),(8,.pl (.one (.v (.sc (.int .i64 k)))))],[(2,.list true 1 (List.map rB in__4))]⟩) hl' (shd [0,5,7,8] [(2,2)] 3 ⟨_,_,rfl,rfl⟩) ?_
     rintro s' y2' e' h2' ⟨k,in__4,rfl,rfl⟩
     replace h2':spec_l05Set_l2 parents v k in__4=some y2':=h2'
     unfold spec_l05Set_l2 at h2'
     refine zC ?_
     refine zC ?_
     refine zB ?_
     obtain ⟨x,hv',h2'⟩:=zbi h2'
     have H':=And.intro (zP hv') H'
     refine ops H' ?_
     obtain ⟨b,gh2',h2'⟩:=zbi h2'
     refine qG 5 (fun e'=>e'=⟨64,2,3,[(0,.pl (.one (.v (.list false 1 (List.map (rL false 1 (rK .i64)) parents))))),(5,.pl (.one (.ref 2 []))),(7,.pl (.one (.v (.sc (.int .i64 v))))),(8,.pl (.one (.v (.sc (.int .i64 k))))),(51,.pl (.one (.v (.sc (.bool b)))))],[(2,.list true 1 (List.map rB in__4))]⟩) ?_ ?_
     ·simp only [List.take_succ_cons,List.take_zero]
      refine opsV_sp (fun hc'=>?_) (fun hc'=>?_)
      ·replace gh2':=(ifT hc').symm.trans gh2'
       obtain ⟨x_1,hv',gh2'⟩:=zbi gh2'
       have H':=And.intro (zP hv') H'
       refine ops H' ?_
       obtain rfl:=zso gh2'
       refine zD ?_
       exact ⟨rfl,shd [0,5,7,8,51] [(2,2)] 3 rfl⟩
      ·replace gh2':=(ifF hc').symm.trans gh2'
       refine ops H' ?_
       obtain rfl:=zso gh2'
       refine zD ?_
       exact ⟨rfl,shd [0,5,7,8,51] [(2,2)] 3 rfl⟩
     ·rintro e' rfl
      simp only [List.drop_succ_cons,List.drop_zero]
      refine zE ?_
      refine zH (fun hc'=>?_) (fun hc'=>?_)
      ·replace h2':=(ifT hc').symm.trans h2'
       refine zR ?_
       refine zC ?_
       refine zJ ?_
       refine zB ?_
       obtain ⟨x_2,hv',h2'⟩:=zbi h2'
       have H':=And.intro (zP hv') H'
       obtain ⟨x_3,hv',h2'⟩:=zbi h2'
       have H':=And.intro (zP hv') H'
       obtain ⟨x_4,hv',h2'⟩:=zbi h2'
       have H':=And.intro (zP hv') H'
       refine ops H' ?_
       refine zE ?_
       refine zB ?_
       refine ops H' ?_
       refine zE ?_
       obtain rfl:=zso h2'
       exact shd [0,5,7,8] [(2,2)] 3 ⟨_,rfl,_,_,rfl,rfl⟩
      ·replace h2':=(ifF hc').symm.trans h2'
       refine exitN ?_
       obtain rfl:=zso h2'
       refine ⟨_,rfl,fun hr'=>?_⟩
       subst hr'
       exact shd [0,5,7] [(2,2)] 3 ⟨_,h1',rfl⟩
    ·rintro e' ⟨in__3,h1',rfl⟩
     unfold spec_l05Set_j3 at h1'
     refine zB ?_
     refine ops H' ?_
     refine zE ?_
     obtain rfl:=zso h1'
     exact shd [0,5,7] [(2,2)] 3 ⟨_,rfl,_,_,rfl,rfl⟩
   ·replace h1':=(ifF hc').symm.trans h1'
    refine exitN ?_
    obtain rfl:=zso h1'
    refine ⟨_,rfl,fun hr'=>?_⟩
    subst hr'
    exact shd [5] [(2,2)] 3 ⟨_,h0',rfl⟩
  ·rintro e' ⟨in__1,h0',rfl⟩
   unfold spec_l05Set_j2 at h0'
   refine zC ?_
   refine zB ?_
   refine ops H' ?_
   refine zE ?_
   refine retN ?_
   obtain rfl:=zso h0'
   exact outG H' rfl rfl
theorem W_spec_l06Live (b:T_impl_Body) (in_:List Bool) (r':Bool) (h0':spec_l06Live b in_=some r'):Fn X 129 [.agg [.sc (.string b.Line),.sc (.int .i64 b.Ins),.sc (.int .i64 b.Ord),.list false 1 (List.map (rK .i64) b.Dels)],.one (.list false 1 (List.map rB in_))] [.one (.sc (.bool r'))] []:=by
 have H':=And.intro t3 (And.intro t4 (And.intro t44 (And.intro t50 (And.intro t154 (And.intro R_b (R_i64))))))
 unfold spec_l06Live at h0'
 refine Fn.start (fn:=f129) (N:=47) (res:=[.tmp 4]) rfl rfl rfl rfl rfl (by simp) ?_
 refine zW H' ?_
 refine zC ?_
 refine zB ?_
 refine ops H' ?_
 refine zE ?_
 refine zC ?_
 refine zC ?_
 refine zB ?_
 refine ops H' ?_
 obtain ⟨x11,hy',h0'⟩:=zbi h0'
 refine zO H' (fun _=>[]) (W_spec_l01In _ _ _ _ hy') ?_
 refine ops H' ?_
 obtain ⟨b_1,gh0',h0'⟩:=zbi h0'
 refine qG 7 (fun e'=>e'=⟨47,5,6,[(1,.pl (.one (.v (.list false 1 (List.map rB in_))))),(2,.pl (.one (.ref 5 []))),(20,.pl (.one (.v (.sc (.bool b_1)))))],[(5,.box true [.sc (.string b.Line),.sc (.int .i64 b.Ins),.sc (.int .i64 b.Ord),.list false 1 (List.map (rK .i64) b.Dels)])]⟩) ?_ ?_
 ·simp only [List.take_succ_cons,List.take_zero]
  refine opsV_sp (fun hc'=>?_) (fun hc'=>?_)
  ·replace gh0':=(ifF hc').symm.trans gh0'
   obtain ⟨x,hv',gh0'⟩:=zbi gh0'
   have H':=And.intro (zP hv') H'
   refine ops H' ?_
   obtain rfl:=zso gh0'
   refine zD ?_
   exact ⟨rfl,shd [1,2,20] [(5,5)] 6 rfl⟩
  ·replace gh0':=(ifT hc').symm.trans gh0'
   refine ops H' ?_
   obtain rfl:=zso gh0'
   refine zD ?_
   exact ⟨rfl,shd [1,2,20] [(5,5)] 6 rfl⟩
 ·rintro e' rfl
  simp only [List.drop_succ_cons,List.drop_zero]
  refine zE ?_
  refine zH (fun hc'=>?_) (fun hc'=>?_)
  ·replace h0':=(ifT hc').symm.trans h0'
   refine zC ?_
   refine zB ?_
   refine ops H' ?_
   refine zE ?_
   refine retN ?_
   obtain rfl:=zso h0'
   exact outG H' rfl rfl
  ·replace h0':=(ifF hc').symm.trans h0'
   refine zR ?_
   refine zU (fun e'=>spec_l06Live_j1=some r'∧e'=⟨47,5,5,[],[]⟩) ?_ ?_
   ·refine zC ?_
    refine zB ?_
    refine ops H' ?_
    refine zE ?_
    obtain ⟨p,hl',h0'⟩:=zbi h0'
    refine zJ ?_
    refine zX (fun i e'=>e'=⟨47,5,6,[(1,.pl (.one (.v (.list false 1 (List.map rB in_))))),(2,.pl (.one (.ref 5 []))),(5,.pl (.one (.v (.sc (.int .i64 i)))))],[(5,.box true [.sc (.string b.Line),.sc (.int .i64 b.Ins),.sc (.int .i64 b.Ord),.list false 1 (List.map (rK .i64) b.Dels)])]⟩) hl' (shd [1,2,5] [(5,5)] 6 rfl) ?_
    rintro i y1' e' h1' rfl
    replace h1':spec_l06Live_l1 b in_ i=some y1':=h1'
    unfold spec_l06Live_l1 at h1'
    refine zC ?_
    refine zC ?_
    refine zB ?_
    refine ops H' ?_
    refine zE ?_
    refine zH (fun hc'=>?_) (fun hc'=>?_)
    ·replace h1':=(ifT hc').symm.trans h1'
     refine zR ?_
     refine zC ?_
     refine zJ ?_
     refine zC ?_
     refine zB ?_
     obtain ⟨x_1,hv',h1'⟩:=zbi h1'
     have H':=And.intro (zP hv') H'
     refine ops H' ?_
     obtain ⟨x36,hy',h1'⟩:=zbi h1'
     refine zO H' (fun _=>[]) (W_spec_l01In _ _ _ _ hy') ?_
     refine ops H' ?_
     obtain ⟨b_2,gh1',h1'⟩:=zbi h1'
     refine qG 9 (fun e'=>e'=⟨47,5,6,[(1,.pl (.one (.v (.list false 1 (List.map rB in_))))),(2,.pl (.one (.ref 5 []))),(5,.pl (.one (.v (.sc (.int .i64 i))))),(46,.pl (.one (.v (.sc (.bool b_2)))))],[(5,.box true [.sc (.string b.Line),.sc (.int .i64 b.Ins),.sc (.int .i64 b.Ord),.list false 1 (List.map (rK .i64) b.Dels)])]⟩) ?_ ?_
     ·simp only [List.take_succ_cons,List.take_zero]
      refine opsV_sp (fun hc'=>?_) (fun hc'=>?_)
      ·replace gh1':=(ifT hc').symm.trans gh1'
       obtain ⟨x_2,hv',gh1'⟩:=zbi gh1'
       have H':=And.intro (zP hv') H'
       refine ops H' ?_
       obtain rfl:=zso gh1'
       refine zD ?_
       exact ⟨rfl,shd [1,2,5,46] [(5,5)] 6 rfl⟩
      ·replace gh1':=(ifF hc').symm.trans gh1'
       refine ops H' ?_
       obtain rfl:=zso gh1'
       refine zD ?_
       exact ⟨rfl,shd [1,2,5,46] [(5,5)] 6 rfl⟩
     ·rintro e' rfl
      simp only [List.drop_succ_cons,List.drop_zero]
      refine zE ?_
      refine zH (fun hc'=>?_) (fun hc'=>?_)
      ·replace h1':=(ifT hc').symm.trans h1'
       refine zC ?_
       refine zB ?_
       refine ops H' ?_
       refine zE ?_
       refine retN ?_
       obtain rfl:=zso h1'
       refine ⟨_,rfl,fun hr'=>?_⟩
       subst hr'
       obtain rfl:=zso h0'
       exact outG H' rfl rfl
      ·replace h1':=(ifF hc').symm.trans h1'
       refine zR ?_
       refine zB ?_
       refine ops H' ?_
       refine zE ?_
       obtain rfl:=zso h1'
       exact shd [1,2,5] [(5,5)] 6 ⟨_,rfl,rfl⟩
    ·replace h1':=(ifF hc').symm.trans h1'
     refine exitN ?_
     obtain rfl:=zso h1'
     refine ⟨_,rfl,fun hr'=>?_⟩
     subst hr'
     exact shd [] [] 5 ⟨h0',rfl⟩
   ·rintro e' ⟨h0',rfl⟩
    unfold spec_l06Live_j1 at h0'
    refine zC ?_
    refine zB ?_
    refine ops H' ?_
    refine zE ?_
    refine retN ?_
    obtain rfl:=zso h0'
    exact outG H' rfl rfl
theorem W_spec_l06Places (w:T_impl_Weave) (in_:List Bool) (r':(List Int)) (h0':spec_l06Places w in_=some r'):Fn X 173 [.agg [.list false 1 (List.map (rL false 1 (rK .i64)) w.Parents),.list false 4 (List.map (zA false) w.Bodies)],.one (.list false 1 (List.map rB in_))] [.one (.list true 1 (List.map (rK .i64) r'))] []:=by
 have H':=And.intro t3 (And.intro t39 (And.intro t41 (And.intro t44 (And.intro t50 (And.intro R_Li64 (And.intro qD (And.intro R_b (R_i64))))))))
 unfold spec_l06Places at h0'
 refine Fn.start (fn:=f173) (N:=27) (res:=[.tmp 4]) rfl rfl rfl rfl rfl (by simp) ?_
 refine zW H' ?_
 refine zC ?_
 refine zB ?_
 refine ops H' ?_
 refine zE ?_
 refine zC ?_
 refine zB ?_
 refine ops H' ?_
 refine zE ?_
 refine zU (fun e'=>∃ out_,spec_l06Places_j1 out_=some r'∧e'=⟨27,3,4,[(5,.pl (.one (.ref 3 [])))],[(3,.list true 1 (List.map (rK .i64) out_))]⟩) ?_ ?_
 ·refine zC ?_
  refine zB ?_
  refine ops H' ?_
  refine zE ?_
  obtain ⟨p,hl',h0'⟩:=zbi h0'
  refine zJ ?_
  refine zX (fun s' e'=>∃ i out__1,s'=(i,out__1)∧e'=⟨27,3,5,[(1,.pl (.one (.v (.list false 1 (List.map rB in_))))),(2,.pl (.one (.ref 3 []))),(5,.pl (.one (.ref 4 []))),(6,.pl (.one (.v (.sc (.int .i64 i)))))],[(3,.box true [.list false 1 (List.map (rL false 1 (rK .i64)) w.Parents),.list false 4 (List.map (zA false) w.Bodies)]),(4,.list true 1 (List.map (rK .i64) out__1))]⟩) hl' (shd [1,2,5,6] [(3,3),(5,4)] 5 ⟨_,_,rfl,rfl⟩) ?_
  rintro s' y1' e' h1' ⟨i,out__1,rfl,rfl⟩
  replace h1':qV w in_ i out__1=some y1':=h1'
  unfold qV at h1'
  refine zC ?_
  refine zC ?_
  refine zB ?_
  refine ops H' ?_
  refine zE ?_
  refine zH (fun hc'=>?_) (fun hc'=>?_)
  ·replace h1':=(ifT hc').symm.trans h1'
   refine zR ?_
   refine zC ?_
   refine zJ ?_
   refine zC ?_
   refine zB ?_
   obtain ⟨x,hv',h1'⟩:=zbi h1'
   have H':=And.intro (zP hv') H'
   refine ops H' ?_
   obtain ⟨x21,hy',h1'⟩:=zbi h1'
   refine zO H' (fun _=>[]) (W_spec_l06Live _ _ _ hy') ?_
   refine zE ?_
   refine zH (fun hc'=>?_) (fun hc'=>?_)
   ·replace h1':=(ifT hc').symm.trans h1'
    refine zB ?_
    obtain ⟨l,hv',h1'⟩:=zbi h1'
    have H':=And.intro (app1_f hv') H'
    refine ops H' ?_
    refine zE ?_
    refine zB ?_
    refine ops H' ?_
    refine zE ?_
    obtain rfl:=zso h1'
    exact shd [1,2,5,6] [(3,3),(4,4)] 5 ⟨_,rfl,_,_,rfl,rfl⟩
   ·replace h1':=(ifF hc').symm.trans h1'
    refine zR ?_
    refine zB ?_
    refine ops H' ?_
    refine zE ?_
    obtain rfl:=zso h1'
    exact shd [1,2,5,6] [(3,3),(4,4)] 5 ⟨_,rfl,_,_,rfl,rfl⟩
  ·replace h1':=(ifF hc').symm.trans h1'
   refine exitN ?_
   obtain rfl:=zso h1'
   refine ⟨_,rfl,fun hr'=>?_⟩
   subst hr'
   exact shd [5] [(4,3)] 4 ⟨_,h0',rfl⟩
 ·rintro e' ⟨out_,h0',rfl⟩
  unfold spec_l06Places_j1 at h0'
  refine zC ?_
  refine zB ?_
  refine ops H' ?_
  refine zE ?_
  refine retN ?_
  obtain rfl:=zso h0'
  exact outG H' rfl rfl
theorem W_spec_l06Seen (w:T_impl_Weave) (parents:List Int) (r':(List Int)) (h0':spec_l06Seen w parents=some r'):Fn X 104 [.agg [.list false 1 (List.map (rL false 1 (rK .i64)) w.Parents),.list false 4 (List.map (zA false) w.Bodies)],.one (.list false 1 (List.map (rK .i64) parents))] [.one (.list true 1 (List.map (rK .i64) r'))] []:=by
 have H':=And.intro t38 (And.intro t41 (And.intro R_Li64 (And.intro qD (And.intro R_b (R_i64)))))
 unfold spec_l06Seen at h0'
 refine Fn.start (fn:=f104) (N:=11) (res:=[.tmp 4]) rfl rfl rfl rfl rfl (by simp) ?_
 refine zW H' ?_
 refine zC ?_
 refine zB ?_
 refine ops H' ?_
 refine zE ?_
 refine zC ?_
 obtain ⟨x9,hy_x9,h0'⟩:=zbi h0'
 obtain ⟨x10,hy_x10,h0'⟩:=zbi h0'
 refine wpV_J (fun e'=>e'=⟨11,3,4,[(4,.pl (.one (.ref 3 [])))],[(3,.list true 1 (List.map (rK .i64) x10))]⟩) ?_ ?_
 ·refine regAnyF [(0,5,.pl (.agg [.v (.list false 1 (List.map (rL false 1 (rK .i64)) w.Parents)),.v (.list false 4 (List.map (zA false) w.Bodies))])),(2,7,.pl (.one (.v (.list false 1 (List.map (rL false 1 (rK .i64)) w.Parents)))))] ?_
  refine (?_:zK X ?o0 _ _ ?P0 _)
  have d0':zK X ?o0 [0,1,2,3,4,5,6] [] ?P0 ⟨11,3,4,[(4,.pl (.one (.ref 3 [])))],[(3,.list true 1 (List.map (rK .i64) x10))]⟩:=by
   refine fend (e2:=⟨11,3,4,[(4,.pl (.one (.ref 3 [])))],[(3,.list true 1 (List.map (rK .i64) x10))]⟩) [] [] [] [] trivial ⟨rfl,shd [4] [(3,3)] 4 rfl⟩
  have d1':zK X ?o0 [0,1,2,3,4,5] [] ?P0 ⟨11,3,4,[(10,.pl (.one (.ref 3 [])))],[(3,.list true 1 (List.map (rK .i64) x10))]⟩:=by
   refine zL [] [.m 6 [] [0,1,2,3,4,5,6] []] [] [(6,false,[],[0,1,2,3,4,5,6])] ⟨?_,trivial⟩
   ·refine zM ⟨11,3,4,[(10,.pl (.one (.ref 3 [])))],[(3,.list true 1 (List.map (rK .i64) x10))]⟩ ?_
    refine ops H' ?_
    refine zD ⟨rfl,.inl ⟨rfl,?_⟩⟩
    exact zF [4] [(3,3)] 4 d0'
  have d2':zK X ?o0 [1,2,3,4] [(0,5,.pl (.agg [.v (.list false 1 (List.map (rL false 1 (rK .i64)) w.Parents)),.v (.list false 4 (List.map (zA false) w.Bodies))]))] ?P0 ⟨11,3,5,[(2,.pl (.one (.ref 3 []))),(9,.pl (.one (.ref 4 [])))],[(3,.box true [.list false 1 (List.map (rL false 1 (rK .i64)) w.Parents),.list false 4 (List.map (zA false) w.Bodies)]),(4,.list true 1 (List.map rB x9))]⟩:=by
   refine zL [0] [.q 0 5 (.pl (.agg [.v (.list false 1 (List.map (rL false 1 (rK .i64)) w.Parents)),.v (.list false 4 (List.map (zA false) w.Bodies))])) [],.m 5 [0] [0,1,2,3,4,5] []] [(0,5)] [(0,true,[],[]),(5,false,[0],[0,1,2,3,4,5])] ⟨?_,?_,trivial⟩
   ·refine zG 0 ⟨11,3,5,[(2,.pl (.one (.ref 3 []))),(9,.pl (.one (.ref 4 [])))],[(3,.box true [.list false 1 (List.map (rL false 1 (rK .i64)) w.Parents),.list false 4 (List.map (zA false) w.Bodies)]),(4,.list true 1 (List.map rB x9))]⟩ ?_
    refine ops H' ?_
    refine zD ⟨rfl,shd [5,2,9] [(3,3),(4,4)] 5 rfl⟩
   ·refine zM ⟨11,3,5,[(5,.pl (.agg [.v (.list false 1 (List.map (rL false 1 (rK .i64)) w.Parents)),.v (.list false 4 (List.map (zA false) w.Bodies))])),(2,.pl (.one (.ref 3 []))),(9,.pl (.one (.ref 4 [])))],[(3,.box true [.list false 1 (List.map (rL false 1 (rK .i64)) w.Parents),.list false 4 (List.map (zA false) w.Bodies)]),(4,.list true 1 (List.map rB x9))]⟩ ?_
    refine zO H' (fun _=>[]) (W_spec_l06Places _ _ _ hy_x10) ?_
    refine zD ⟨rfl,.inl ⟨rfl,?_⟩⟩
    exact zF [10] [(5,3)] 4 d1'
  have d3':zK X ?o0 [1,3] [(0,5,.pl (.agg [.v (.list false 1 (List.map (rL false 1 (rK .i64)) w.Parents)),.v (.list false 4 (List.map (zA false) w.Bodies))])),(2,7,.pl (.one (.v (.list false 1 (List.map (rL false 1 (rK .i64)) w.Parents)))))] ?P0 ⟨11,3,4,[(2,.pl (.one (.ref 3 []))),(6,.pl (.one (.addr 3 [] 0 0 0))),(8,.pl (.one (.v (.list false 1 (List.map (rK .i64) parents)))))],[(3,.box true [.list false 1 (List.map (rL false 1 (rK .i64)) w.Parents),.list false 4 (List.map (zA false) w.Bodies)])]⟩:=by
   refine zL [0,2] [.q 0 5 (.pl (.agg [.v (.list false 1 (List.map (rL false 1 (rK .i64)) w.Parents)),.v (.list false 4 (List.map (zA false) w.Bodies))])) [],.q 2 7 (.pl (.one (.v (.list false 1 (List.map (rL false 1 (rK .i64)) w.Parents))))) [],.m 4 [2] [1,2,3,4] [(0,5,.pl (.agg [.v (.list false 1 (List.map (rL false 1 (rK .i64)) w.Parents)),.v (.list false 4 (List.map (zA false) w.Bodies))]))]] [(0,5),(2,7)] [(0,true,[],[]),(2,true,[],[]),(4,false,[2],[1,2,3,4])] ⟨?_,?_,?_,trivial⟩
   ·refine zG 0 ⟨11,3,4,[(2,.pl (.one (.ref 3 []))),(6,.pl (.one (.addr 3 [] 0 0 0))),(8,.pl (.one (.v (.list false 1 (List.map (rK .i64) parents)))))],[(3,.box true [.list false 1 (List.map (rL false 1 (rK .i64)) w.Parents),.list false 4 (List.map (zA false) w.Bodies)])]⟩ ?_
    refine ops H' ?_
    refine zD ⟨rfl,shd [5,2,6,8] [(3,3)] 4 rfl⟩
   ·refine zG 1 ⟨11,3,4,[(2,.pl (.one (.ref 3 []))),(6,.pl (.one (.addr 3 [] 0 0 0))),(8,.pl (.one (.v (.list false 1 (List.map (rK .i64) parents)))))],[(3,.box true [.list false 1 (List.map (rL false 1 (rK .i64)) w.Parents),.list false 4 (List.map (zA false) w.Bodies)])]⟩ ?_
    refine ops H' ?_
    refine zD ⟨rfl,shd [7,2,6,8] [(3,3)] 4 rfl⟩
   ·refine zM ⟨11,3,4,[(7,.pl (.one (.v (.list false 1 (List.map (rL false 1 (rK .i64)) w.Parents))))),(2,.pl (.one (.ref 3 []))),(6,.pl (.one (.addr 3 [] 0 0 0))),(8,.pl (.one (.v (.list false 1 (List.map (rK .i64) parents)))))],[(3,.box true [.list false 1 (List.map (rL false 1 (rK .i64)) w.Parents),.list false 4 (List.map (zA false) w.Bodies)])]⟩ ?_
    refine zO H' (fun _=>[]) (W_spec_l05Set _ _ _ hy_x9) ?_
    refine zD ⟨rfl,.inl ⟨rfl,?_⟩⟩
    exact zF [2,9] [(3,3),(4,4)] 5 d2'
  refine fpure H' 1 [1] [(0,5),(2,7)] ?_
  refine fpure H' 3 [1,3] [(0,5),(2,7)] ?_
  exact zF [2,6,8] [(3,3)] 4 d3'
 ·rintro e' rfl
  refine contN ?_
  refine retN ?_
  obtain rfl:=zso h0'
  exact outG H' rfl rfl
theorem W_spec_l06Lines (w:T_impl_Weave) (places:List Int) (r':(List ByteArray)) (h0':spec_l06Lines w places=some r'):Fn X 103 [.agg [.list false 1 (List.map (rL false 1 (rK .i64)) w.Parents),.list false 4 (List.map (zA false) w.Bodies)],.one (.list false 1 (List.map (rK .i64) places))] [.one (.list true 1 (List.map rS r'))] []:=by
 have H':=And.intro t3 (And.intro t9 (And.intro t39 (And.intro t41 (And.intro t44 (And.intro t50 (And.intro t55 (And.intro R_Li64 (And.intro qD (And.intro R_i64 (R_s))))))))))
 unfold spec_l06Lines at h0'
 refine Fn.start (fn:=f103) (N:=27) (res:=[.tmp 4]) rfl rfl rfl rfl rfl (by simp) ?_
 refine zW H' ?_
 refine zC ?_
 refine zB ?_
 refine ops H' ?_
 refine zE ?_
 refine zC ?_
 refine zB ?_
 refine ops H' ?_
 refine zE ?_
 refine zU (fun e'=>∃ out_,spec_l06Lines_j1 out_=some r'∧e'=⟨27,3,4,[(5,.pl (.one (.ref 3 [])))],[(3,.list true 1 (List.map rS out_))]⟩) ?_ ?_
 ·refine zC ?_
  refine zB ?_
  refine ops H' ?_
  refine zE ?_
  obtain ⟨p,hl',h0'⟩:=zbi h0'
  refine zJ ?_
  refine zX (fun s' e'=>∃ i out__1,s'=(i,out__1)∧e'=⟨27,3,5,[(1,.pl (.one (.v (.list false 1 (List.map (rK .i64) places))))),(2,.pl (.one (.ref 3 []))),(5,.pl (.one (.ref 4 []))),(6,.pl (.one (.v (.sc (.int .i64 i)))))],[(3,.box true [.list false 1 (List.map (rL false 1 (rK .i64)) w.Parents),.list false 4 (List.map (zA false) w.Bodies)]),(4,.list true 1 (List.map rS out__1))]⟩) hl' (shd [1,2,5,6] [(3,3),(5,4)] 5 ⟨_,_,rfl,rfl⟩) ?_
  rintro s' y1' e' h1' ⟨i,out__1,rfl,rfl⟩
  replace h1':spec_l06Lines_l1 w places i out__1=some y1':=h1'
  unfold spec_l06Lines_l1 at h1'
  refine zC ?_
  refine zC ?_
  refine zB ?_
  refine ops H' ?_
  refine zE ?_
  refine zH (fun hc'=>?_) (fun hc'=>?_)
  ·replace h1':=(ifT hc').symm.trans h1'
   refine zR ?_
   refine zC ?_
   refine zJ ?_
   obtain ⟨x,hv',h1'⟩:=zbi h1'
   have H':=And.intro (zP hv') H'
   obtain ⟨x_1,hv',h1'⟩:=zbi h1'
   have H':=And.intro (zP hv') H'
   obtain ⟨l,hv',h1'⟩:=zbi h1'
   have H':=And.intro (app1_f hv') H'
   refine wpV_J (fun e'=>e'=⟨27,3,5,[(1,.pl (.one (.v (.list false 1 (List.map (rK .i64) places))))),(2,.pl (.one (.ref 3 []))),(5,.pl (.one (.ref 4 []))),(6,.pl (.one (.v (.sc (.int .i64 i)))))],[(3,.box true [.list false 1 (List.map (rL false 1 (rK .i64)) w.Parents),.list false 4 (List.map (zA false) w.Bodies)]),(4,.list true 1 (List.map rS l))]⟩) ?_ ?_
   ·refine regAnyF [(2,16,.pl (.one (.v (.list false 4 (List.map (zA false) w.Bodies))))),(6,20,.pl (.one (.v (.sc (.int .i64 x))))),(7,21,.pl (.one (.ba [.sc (.string x_1.Line),.sc (.int .i64 x_1.Ins),.sc (.int .i64 x_1.Ord),.list false 1 (List.map (rK .i64) x_1.Dels)]))),(8,22,.pl (.one (.ba [.sc (.string x_1.Line),.sc (.int .i64 x_1.Ins),.sc (.int .i64 x_1.Ord),.list false 1 (List.map (rK .i64) x_1.Dels)]))),(9,23,.pl (.one (.v (.sc (.string x_1.Line)))))] ?_
    refine (?_:zK X ?o1 _ _ ?P1 _)
    have d4':zK X ?o1 [0,1,2,3,4,5,6,7,8,9,10,11,12] [] ?P1 ⟨27,3,5,[(1,.pl (.one (.v (.list false 1 (List.map (rK .i64) places))))),(2,.pl (.one (.ref 3 []))),(5,.pl (.one (.ref 4 []))),(6,.pl (.one (.v (.sc (.int .i64 i)))))],[(3,.box true [.list false 1 (List.map (rL false 1 (rK .i64)) w.Parents),.list false 4 (List.map (zA false) w.Bodies)]),(4,.list true 1 (List.map rS l))]⟩:=by
     refine fend (e2:=⟨27,3,5,[(1,.pl (.one (.v (.list false 1 (List.map (rK .i64) places))))),(2,.pl (.one (.ref 3 []))),(5,.pl (.one (.ref 4 []))),(6,.pl (.one (.v (.sc (.int .i64 i)))))],[(3,.box true [.list false 1 (List.map (rL false 1 (rK .i64)) w.Parents),.list false 4 (List.map (zA false) w.Bodies)]),(4,.list true 1 (List.map rS l))]⟩) [] [] [] [] trivial ⟨rfl,shd [1,2,5,6] [(3,3),(4,4)] 5 rfl⟩
    have d5':zK X ?o1 [0,1,2,3,4,5,6,7,8,9,10,11] [] ?P1 ⟨27,3,5,[(1,.pl (.one (.v (.list false 1 (List.map (rK .i64) places))))),(2,.pl (.one (.ref 3 []))),(6,.pl (.one (.v (.sc (.int .i64 i))))),(25,.pl (.one (.ref 4 [])))],[(3,.box true [.list false 1 (List.map (rL false 1 (rK .i64)) w.Parents),.list false 4 (List.map (zA false) w.Bodies)]),(4,.list true 1 (List.map rS l))]⟩:=by
     refine zL [] [.m 12 [] [0,1,2,3,4,5,6,7,8,9,10,11,12] []] [] [(12,false,[],[0,1,2,3,4,5,6,7,8,9,10,11,12])] ⟨?_,trivial⟩
     ·refine zM ⟨27,3,5,[(1,.pl (.one (.v (.list false 1 (List.map (rK .i64) places))))),(2,.pl (.one (.ref 3 []))),(6,.pl (.one (.v (.sc (.int .i64 i))))),(25,.pl (.one (.ref 4 [])))],[(3,.box true [.list false 1 (List.map (rL false 1 (rK .i64)) w.Parents),.list false 4 (List.map (zA false) w.Bodies)]),(4,.list true 1 (List.map rS l))]⟩ ?_
      refine ops H' ?_
      refine zD ⟨rfl,.inl ⟨rfl,?_⟩⟩
      exact zF [1,2,5,6] [(3,3),(4,4)] 5 d4'
    have d6':zK X ?o1 [0,1,2,3,4,5,6,7,8,9,10] [] ?P1 ⟨27,3,6,[(1,.pl (.one (.v (.list false 1 (List.map (rK .i64) places))))),(2,.pl (.one (.ref 3 []))),(6,.pl (.one (.v (.sc (.int .i64 i))))),(14,.pl (.one (.ref 4 []))),(24,.pl (.one (.ref 5 [])))],[(3,.box true [.list false 1 (List.map (rL false 1 (rK .i64)) w.Parents),.list false 4 (List.map (zA false) w.Bodies)]),(4,.list true 1 (List.map rS out__1)),(5,.list true 1 (List.map rS [x_1.Line]))]⟩:=by
     refine zL [] [.m 11 [] [0,1,2,3,4,5,6,7,8,9,10,11] []] [] [(11,false,[],[0,1,2,3,4,5,6,7,8,9,10,11])] ⟨?_,trivial⟩
     ·refine zM ⟨27,3,6,[(1,.pl (.one (.v (.list false 1 (List.map (rK .i64) places))))),(2,.pl (.one (.ref 3 []))),(6,.pl (.one (.v (.sc (.int .i64 i))))),(14,.pl (.one (.ref 4 []))),(24,.pl (.one (.ref 5 [])))],[(3,.box true [.list false 1 (List.map (rL false 1 (rK .i64)) w.Parents),.list false 4 (List.map (zA false) w.Bodies)]),(4,.list true 1 (List.map rS out__1)),(5,.list true 1 (List.map rS [x_1.Line]))]⟩ ?_
      refine ops H' ?_
      refine zD ⟨rfl,.inl ⟨rfl,?_⟩⟩
      exact zF [1,2,6,25] [(3,3),(4,4)] 5 d5'
    have d7':zK X ?o1 [0,1,3,4,5] [(2,16,.pl (.one (.v (.list false 4 (List.map (zA false) w.Bodies))))),(6,20,.pl (.one (.v (.sc (.int .i64 x))))),(7,21,.pl (.one (.ba [.sc (.string x_1.Line),.sc (.int .i64 x_1.Ins),.sc (.int .i64 x_1.Ord),.list false 1 (List.map (rK .i64) x_1.Dels)]))),(8,22,.pl (.one (.ba [.sc (.string x_1.Line),.sc (.int .i64 x_1.Ins),.sc (.int .i64 x_1.Ord),.list false 1 (List.map (rK .i64) x_1.Dels)]))),(9,23,.pl (.one (.v (.sc (.string x_1.Line)))))] ?P1 ⟨27,3,5,[(1,.pl (.one (.v (.list false 1 (List.map (rK .i64) places))))),(2,.pl (.one (.ref 3 []))),(6,.pl (.one (.v (.sc (.int .i64 i))))),(14,.pl (.one (.ref 4 []))),(15,.pl (.one (.addr 3 [] 0 0 1))),(19,.pl (.one (.ba [.sc (.int .i64 x)])))],[(3,.box true [.list false 1 (List.map (rL false 1 (rK .i64)) w.Parents),.list false 4 (List.map (zA false) w.Bodies)]),(4,.list true 1 (List.map rS out__1))]⟩:=by
     refine zL [2,6,7,8,9] [.q 2 16 (.pl (.one (.v (.list false 4 (List.map (zA false) w.Bodies))))) [],.q 6 20 (.pl (.one (.v (.sc (.int .i64 x))))) [],.q 7 21 (.pl (.one (.ba [.sc (.string x_1.Line),.sc (.int .i64 x_1.Ins),.sc (.int .i64 x_1.Ord),.list false 1 (List.map (rK .i64) x_1.Dels)]))) [2,6],.q 8 22 (.pl (.one (.ba [.sc (.string x_1.Line),.sc (.int .i64 x_1.Ins),.sc (.int .i64 x_1.Ord),.list false 1 (List.map (rK .i64) x_1.Dels)]))) [7],.q 9 23 (.pl (.one (.v (.sc (.string x_1.Line))))) [8],.m 10 [9,8,7,2,6] [0,1,2,3,4,5,6,7,8,9,10] []] [(2,16),(6,20),(7,21),(8,22),(9,23)] [(2,true,[],[]),(6,true,[],[]),(7,true,[2,6],[]),(8,true,[7],[]),(9,true,[8],[]),(10,false,[9,8,7,2,6],[0,1,2,3,4,5,6,7,8,9,10])] ⟨?_,?_,?_,?_,?_,?_,trivial⟩
     ·refine zG 0 ⟨27,3,5,[(1,.pl (.one (.v (.list false 1 (List.map (rK .i64) places))))),(2,.pl (.one (.ref 3 []))),(6,.pl (.one (.v (.sc (.int .i64 i))))),(14,.pl (.one (.ref 4 []))),(15,.pl (.one (.addr 3 [] 0 0 1))),(19,.pl (.one (.ba [.sc (.int .i64 x)])))],[(3,.box true [.list false 1 (List.map (rL false 1 (rK .i64)) w.Parents),.list false 4 (List.map (zA false) w.Bodies)]),(4,.list true 1 (List.map rS out__1))]⟩ ?_
      refine ops H' ?_
      refine zD ⟨rfl,shd [16,1,2,6,14,15,19] [(3,3),(4,4)] 5 rfl⟩
     ·refine zG 1 ⟨27,3,5,[(1,.pl (.one (.v (.list false 1 (List.map (rK .i64) places))))),(2,.pl (.one (.ref 3 []))),(6,.pl (.one (.v (.sc (.int .i64 i))))),(14,.pl (.one (.ref 4 []))),(15,.pl (.one (.addr 3 [] 0 0 1))),(19,.pl (.one (.ba [.sc (.int .i64 x)])))],[(3,.box true [.list false 1 (List.map (rL false 1 (rK .i64)) w.Parents),.list false 4 (List.map (zA false) w.Bodies)]),(4,.list true 1 (List.map rS out__1))]⟩ ?_
      refine ops H' ?_
      refine zD ⟨rfl,shd [20,1,2,6,14,15,19] [(3,3),(4,4)] 5 rfl⟩
     ·refine zG 2 ⟨27,3,5,[(16,.pl (.one (.v (.list false 4 (List.map (zA false) w.Bodies))))),(20,.pl (.one (.v (.sc (.int .i64 x))))),(1,.pl (.one (.v (.list false 1 (List.map (rK .i64) places))))),(2,.pl (.one (.ref 3 []))),(6,.pl (.one (.v (.sc (.int .i64 i))))),(14,.pl (.one (.ref 4 []))),(15,.pl (.one (.addr 3 [] 0 0 1))),(19,.pl (.one (.ba [.sc (.int .i64 x)])))],[(3,.box true [.list false 1 (List.map (rL false 1 (rK .i64)) w.Parents),.list false 4 (List.map (zA false) w.Bodies)]),(4,.list true 1 (List.map rS out__1))]⟩ ?_
      refine ops H' ?_
      refine zD ⟨rfl,shd [21,1,2,6,14,15,19] [(3,3),(4,4)] 5 rfl⟩
     ·refine zG 3 ⟨27,3,5,[(21,.pl (.one (.ba [.sc (.string x_1.Line),.sc (.int .i64 x_1.Ins),.sc (.int .i64 x_1.Ord),.list false 1 (List.map (rK .i64) x_1.Dels)]))),(1,.pl (.one (.v (.list false 1 (List.map (rK .i64) places))))),(2,.pl (.one (.ref 3 []))),(6,.pl (.one (.v (.sc (.int .i64 i))))),(14,.pl (.one (.ref 4 []))),(15,.pl (.one (.addr 3 [] 0 0 1))),(19,.pl (.one (.ba [.sc (.int .i64 x)])))],[(3,.box true [.list false 1 (List.map (rL false 1 (rK .i64)) w.Parents),.list false 4 (List.map (zA false) w.Bodies)]),(4,.list true 1 (List.map rS out__1))]⟩ ?_
      refine ops H' ?_
      refine zD ⟨rfl,shd [22,1,2,6,14,15,19] [(3,3),(4,4)] 5 rfl⟩
     ·refine zG 4 ⟨27,3,5,[(22,.pl (.one (.ba [.sc (.string x_1.Line),.sc (.int .i64 x_1.Ins),.sc (.int .i64 x_1.Ord),.list false 1 (List.map (rK .i64) x_1.Dels)]))),(1,.pl (.one (.v (.list false 1 (List.map (rK .i64) places))))),(2,.pl (.one (.ref 3 []))),(6,.pl (.one (.v (.sc (.int .i64 i))))),(14,.pl (.one (.ref 4 []))),(15,.pl (.one (.addr 3 [] 0 0 1))),(19,.pl (.one (.ba [.sc (.int .i64 x)])))],[(3,.box true [.list false 1 (List.map (rL false 1 (rK .i64)) w.Parents),.list false 4 (List.map (zA false) w.Bodies)]),(4,.list true 1 (List.map rS out__1))]⟩ ?_
      refine ops H' ?_
      refine zD ⟨rfl,shd [23,1,2,6,14,15,19] [(3,3),(4,4)] 5 rfl⟩
     ·refine zM ⟨27,3,5,[(16,.pl (.one (.v (.list false 4 (List.map (zA false) w.Bodies))))),(20,.pl (.one (.v (.sc (.int .i64 x))))),(21,.pl (.one (.ba [.sc (.string x_1.Line),.sc (.int .i64 x_1.Ins),.sc (.int .i64 x_1.Ord),.list false 1 (List.map (rK .i64) x_1.Dels)]))),(22,.pl (.one (.ba [.sc (.string x_1.Line),.sc (.int .i64 x_1.Ins),.sc (.int .i64 x_1.Ord),.list false 1 (List.map (rK .i64) x_1.Dels)]))),(23,.pl (.one (.v (.sc (.string x_1.Line))))),(1,.pl (.one (.v (.list false 1 (List.map (rK .i64) places))))),(2,.pl (.one (.ref 3 []))),(6,.pl (.one (.v (.sc (.int .i64 i))))),(14,.pl (.one (.ref 4 []))),(15,.pl (.one (.addr 3 [] 0 0 1))),(19,.pl (.one (.ba [.sc (.int .i64 x)])))],[(3,.box true [.list false 1 (List.map (rL false 1 (rK .i64)) w.Parents),.list false 4 (List.map (zA false) w.Bodies)]),(4,.list true 1 (List.map rS out__1))]⟩ ?_
      refine ops H' ?_
      refine zD ⟨rfl,.inl ⟨rfl,?_⟩⟩
      exact zF [1,2,6,14,24] [(3,3),(4,4),(5,5)] 6 d6'
    refine fpure H' 0 [0] [(2,16),(6,20),(7,21),(8,22),(9,23)] ?_
    refine fpure H' 1 [0,1] [(2,16),(6,20),(7,21),(8,22),(9,23)] ?_
    refine fpure H' 3 [0,1,3] [(2,16),(6,20),(7,21),(8,22),(9,23)] ?_
    refine fpure H' 4 [0,1,3,4] [(2,16),(6,20),(7,21),(8,22),(9,23)] ?_
    refine fpure H' 5 [0,1,3,4,5] [(2,16),(6,20),(7,21),(8,22),(9,23)] ?_
    exact zF [1,2,6,14,15,19] [(3,3),(4,4)] 5 d7'
   ·rintro e' rfl
    refine contN ?_
    refine zB ?_
    refine ops H' ?_
    refine zE ?_
    obtain rfl:=zso h1'
    exact shd [1,2,5,6] [(3,3),(4,4)] 5 ⟨_,rfl,_,_,rfl,rfl⟩
  ·replace h1':=(ifF hc').symm.trans h1'
   refine exitN ?_
   obtain rfl:=zso h1'
   refine ⟨_,rfl,fun hr'=>?_⟩
   subst hr'
   exact shd [5] [(4,3)] 4 ⟨_,h0',rfl⟩
 ·rintro e' ⟨out_,h0',rfl⟩
  unfold spec_l06Lines_j1 at h0'
  refine zC ?_
  refine zB ?_
  refine ops H' ?_
  refine zE ?_
  refine retN ?_
  obtain rfl:=zso h0'
  exact outG H' rfl rfl
theorem W_spec_l01Pick (c:T_spec_l01Cur) (list_:List ByteArray) (r':ByteArray×T_spec_l01Cur) (h0':spec_l01Pick c list_=some r'):Fn X 204 [.one (.box true [.list false 1 (List.map (rK .u8) c.b),.sc (.int .i64 c.i),.sc (.int .i64 c.h)]),.one (.list false 1 (List.map rS list_))] [.one (.sc (.string r'.1))] [(0,.box true [.list false 1 (List.map (rK .u8) r'.2.b),.sc (.int .i64 r'.2.i),.sc (.int .i64 r'.2.h)])]:=by
 have H':=And.intro t9 (And.intro t55 (And.intro R_s (R_u8)))
 unfold spec_l01Pick at h0'
 refine Fn.start (fn:=f204) (N:=12) (res:=[.tmp 4]) rfl rfl rfl rfl rfl (by simp) ?_
 refine zW H' ?_
 refine zC ?_
 refine zB ?_
 refine ops H' ?_
 refine zE ?_
 refine zC ?_
 refine zB ?_
 refine ops H' ?_
 obtain ⟨x9,hy',h0'⟩:=zbi h0'
 refine callGD H' (fun _=>[0]) (W_spec_l01Below _ _ _ hy') ?_
 obtain ⟨x,hv',h0'⟩:=zbi h0'
 have H':=And.intro (zP hv') H'
 refine ops H' ?_
 refine zE ?_
 refine retN ?_
 obtain rfl:=zso h0'
 exact outG H' rfl rfl
theorem W_spec_l03Line (c:T_spec_l01Cur) (r':ByteArray×T_spec_l01Cur) (h0':spec_l03Line c=some r'):Fn X 192 [.one (.box true [.list false 1 (List.map (rK .u8) c.b),.sc (.int .i64 c.i),.sc (.int .i64 c.h)])] [.one (.sc (.string r'.1))] [(0,.box true [.list false 1 (List.map (rK .u8) r'.2.b),.sc (.int .i64 r'.2.i),.sc (.int .i64 r'.2.h)])]:=by
 have H':=And.intro t9 (And.intro t55 (And.intro R_s (R_u8)))
 unfold spec_l03Line at h0'
 refine Fn.start (fn:=f192) (N:=6) (res:=[.tmp 2]) rfl rfl rfl rfl rfl (by simp) ?_
 refine zW H' ?_
 refine zC ?_
 refine zB ?_
 refine ops H' ?_
 refine zE ?_
 refine zC ?_
 refine zB ?_
 refine ops H' ?_
 refine opsV_frz H' 1 ?_
 obtain ⟨x5,hy',h0'⟩:=zbi h0'
 refine callGD H' (fun _=>[0]) (W_spec_l01Pick _ _ _ hy') ?_
 refine ops H' ?_
 refine zE ?_
 refine retN ?_
 obtain rfl:=zso h0'
 exact outG H' rfl rfl
theorem W_spec_l04Near (c:T_spec_l01Cur) (a:List ByteArray) (r':(List ByteArray)×T_spec_l01Cur) (h0':spec_l04Near c a=some r'):Fn X 161 [.one (.box true [.list false 1 (List.map (rK .u8) c.b),.sc (.int .i64 c.i),.sc (.int .i64 c.h)]),.one (.list false 1 (List.map rS a))] [.one (.list true 1 (List.map rS r'.1))] [(0,.box true [.list false 1 (List.map (rK .u8) r'.2.b),.sc (.int .i64 r'.2.i),.sc (.int .i64 r'.2.h)])]:=by
 have H':=And.intro t3 (And.intro t9 (And.intro t55 (And.intro R_s (R_u8))))
 unfold spec_l04Near at h0'
 refine Fn.start (fn:=f161) (N:=51) (res:=[.tmp 4]) rfl rfl rfl rfl rfl (by simp) ?_
 refine zW H' ?_
 refine zC ?_
 refine zB ?_
 refine ops H' ?_
 refine zE ?_
 refine zC ?_
 refine zB ?_
 refine ops H' ?_
 refine zE ?_
 refine zU (fun e'=>∃ c_1 c_2 c_3 out_,spec_l04Near_j1 c_1 c_2 c_3 out_=some r'∧e'=⟨51,2,3,[(0,.pl (.one (.ref 0 []))),(5,.pl (.one (.ref 2 [])))],[(0,.box true [.list false 1 (List.map (rK .u8) c_1),.sc (.int .i64 c_2),.sc (.int .i64 c_3)]),(2,.list true 1 (List.map rS out_))]⟩) ?_ ?_
 ·refine zC ?_
  refine zB ?_
  refine ops H' ?_
  refine zE ?_
  obtain ⟨p,hl',h0'⟩:=zbi h0'
  refine zJ ?_
  refine zX (fun s' e'=>∃ i c_4 c_5 c_6 out__1,s'=(i,c_4,c_5,c_6,out__1)∧e'=⟨51,2,3,[(0,.pl (.one (.ref 0 []))),(1,.pl (.one (.v (.list false 1 (List.map rS a))))),(5,.pl (.one (.ref 2 []))),(6,.pl (.one (.v (.sc (.int .i64 i)))))],[(0,.box true [.list false 1 (List.map (rK .u8) c_4),.sc (.int .i64 c_5),.sc (.int .i64 c_6)]),(2,.list true 1 (List.map rS out__1))]⟩) hl' (shd [0,1,5,6] [(0,0),(3,2)] 3 ⟨_,_,_,_,_,rfl,rfl⟩) ?_
  rintro s' y1' e' h1' ⟨i,c_4,c_5,c_6,out__1,rfl,rfl⟩
  replace h1':spec_l04Near_l1 a i c_4 c_5 c_6 out__1=some y1':=h1'
  unfold spec_l04Near_l1 at h1'
  refine zC ?_
  refine zC ?_
  refine zB ?_
  refine ops H' ?_
  refine zE ?_
  refine zH (fun hc'=>?_) (fun hc'=>?_)
  ·replace h1':=(ifT hc').symm.trans h1'
   refine zR ?_
   refine zC ?_
   refine zJ ?_
   refine zC ?_
   refine zB ?_
   refine ops H' ?_
   obtain ⟨x15,hy',h1'⟩:=zbi h1'
   refine callGD H' (fun _=>[0]) (W_spec_l01Below _ _ _ hy') ?_
   refine zE ?_
   refine zJ ?_
   refine zC ?_
   refine zB ?_
   refine ops H' ?_
   refine zE ?_
   refine zH (fun hc'=>?_) (fun hc'=>?_)
   ·replace h1':=(ifT hc').symm.trans h1'
    refine zB ?_
    refine ops H' ?_
    obtain ⟨x27,hy',h1'⟩:=zbi h1'
    refine callGD H' (fun _=>[0]) (W_spec_l03Line _ _ hy') ?_
    obtain ⟨l_1,hv',h1'⟩:=zbi h1'
    have H':=And.intro (app1_f hv') H'
    refine ops H' ?_
    refine zE ?_
    refine zB ?_
    refine ops H' ?_
    refine zE ?_
    obtain rfl:=zso h1'
    exact shd [0,1,5,6] [(0,0),(2,2)] 3 ⟨_,rfl,_,_,_,_,_,rfl,rfl⟩
   ·replace h1':=(ifF hc').symm.trans h1'
    refine zC ?_
    refine zB ?_
    refine ops H' ?_
    refine zE ?_
    refine zH (fun hc'=>?_) (fun hc'=>?_)
    ·replace h1':=(ifT hc').symm.trans h1'
     obtain ⟨x,hv',h1'⟩:=zbi h1'
     have H':=And.intro (zP hv') H'
     obtain ⟨x34,hy_x34,h1'⟩:=zbi h1'
     obtain ⟨l_2,hv',h1'⟩:=zbi h1'
     have H':=And.intro (app2_f hv') H'
     refine wpV_J (fun e'=>e'=⟨51,2,3,[(0,.pl (.one (.ref 0 []))),(1,.pl (.one (.v (.list false 1 (List.map rS a))))),(5,.pl (.one (.ref 2 []))),(6,.pl (.one (.v (.sc (.int .i64 i)))))],[(0,.box true [.list false 1 (List.map (rK .u8) x34.2.b),.sc (.int .i64 x34.2.i),.sc (.int .i64 x34.2.h)]),(2,.list true 1 (List.map rS l_2))]⟩) ?_ ?_
     ·refine regAnyF [(6,38,.pl (.one (.v (.sc (.string x)))))] ?_
      refine (?_:zK X ?o2 _ _ ?P2 _)
      have d8':zK X ?o2 [0,1,2,3,4,5,6,7,8,9] [] ?P2 ⟨51,2,3,[(0,.pl (.one (.ref 0 []))),(1,.pl (.one (.v (.list false 1 (List.map rS a))))),(5,.pl (.one (.ref 2 []))),(6,.pl (.one (.v (.sc (.int .i64 i)))))],[(0,.box true [.list false 1 (List.map (rK .u8) x34.2.b),.sc (.int .i64 x34.2.i),.sc (.int .i64 x34.2.h)]),(2,.list true 1 (List.map rS l_2))]⟩:=by
       refine fend (e2:=⟨51,2,3,[(0,.pl (.one (.ref 0 []))),(1,.pl (.one (.v (.list false 1 (List.map rS a))))),(5,.pl (.one (.ref 2 []))),(6,.pl (.one (.v (.sc (.int .i64 i)))))],[(0,.box true [.list false 1 (List.map (rK .u8) x34.2.b),.sc (.int .i64 x34.2.i),.sc (.int .i64 x34.2.h)]),(2,.list true 1 (List.map rS l_2))]⟩) [] [] [] [] trivial ⟨rfl,shd [0,1,5,6] [(0,0),(2,2)] 3 rfl⟩
      have d9':zK X ?o2 [0,1,2,3,4,5,6,7,8] [] ?P2 ⟨51,2,3,[(0,.pl (.one (.ref 0 []))),(1,.pl (.one (.v (.list false 1 (List.map rS a))))),(6,.pl (.one (.v (.sc (.int .i64 i))))),(40,.pl (.one (.ref 2 [])))],[(0,.box true [.list false 1 (List.map (rK .u8) x34.2.b),.sc (.int .i64 x34.2.i),.sc (.int .i64 x34.2.h)]),(2,.list true 1 (List.map rS l_2))]⟩:=by
       refine zL [] [.m 9 [] [0,1,2,3,4,5,6,7,8,9] []] [] [(9,false,[],[0,1,2,3,4,5,6,7,8,9])] ⟨?_,trivial⟩
       ·refine zM ⟨51,2,3,[(0,.pl (.one (.ref 0 []))),(1,.pl (.one (.v (.list false 1 (List.map rS a))))),(6,.pl (.one (.v (.sc (.int .i64 i))))),(40,.pl (.one (.ref 2 [])))],[(0,.box true [.list false 1 (List.map (rK .u8) x34.2.b),.sc (.int .i64 x34.2.i),.sc (.int .i64 x34.2.h)]),(2,.list true 1 (List.map rS l_2))]⟩ ?_
        refine ops H' ?_
        refine zD ⟨rfl,.inl ⟨rfl,?_⟩⟩
        exact zF [0,1,5,6] [(0,0),(2,2)] 3 d8'
      have d10':zK X ?o2 [0,1,2,3,4,5,6,7] [] ?P2 ⟨51,2,4,[(0,.pl (.one (.ref 0 []))),(1,.pl (.one (.v (.list false 1 (List.map rS a))))),(6,.pl (.one (.v (.sc (.int .i64 i))))),(32,.pl (.one (.ref 2 []))),(39,.pl (.one (.ref 3 [])))],[(0,.box true [.list false 1 (List.map (rK .u8) x34.2.b),.sc (.int .i64 x34.2.i),.sc (.int .i64 x34.2.h)]),(2,.list true 1 (List.map rS out__1)),(3,.list true 1 (List.map rS [x34.1,x]))]⟩:=by
       refine zL [] [.m 8 [] [0,1,2,3,4,5,6,7,8] []] [] [(8,false,[],[0,1,2,3,4,5,6,7,8])] ⟨?_,trivial⟩
       ·refine zM ⟨51,2,4,[(0,.pl (.one (.ref 0 []))),(1,.pl (.one (.v (.list false 1 (List.map rS a))))),(6,.pl (.one (.v (.sc (.int .i64 i))))),(32,.pl (.one (.ref 2 []))),(39,.pl (.one (.ref 3 [])))],[(0,.box true [.list false 1 (List.map (rK .u8) x34.2.b),.sc (.int .i64 x34.2.i),.sc (.int .i64 x34.2.h)]),(2,.list true 1 (List.map rS out__1)),(3,.list true 1 (List.map rS [x34.1,x]))]⟩ ?_
        refine ops H' ?_
        refine zD ⟨rfl,.inl ⟨rfl,?_⟩⟩
        exact zF [0,1,6,40] [(0,0),(2,2)] 3 d9'
      have d11':zK X ?o2 [0,1,2,3,4,5] [(6,38,.pl (.one (.v (.sc (.string x)))))] ?P2 ⟨51,2,3,[(0,.pl (.one (.ref 0 []))),(1,.pl (.one (.v (.list false 1 (List.map rS a))))),(6,.pl (.one (.v (.sc (.int .i64 i))))),(32,.pl (.one (.ref 2 []))),(34,.pl (.one (.v (.sc (.string x34.1))))),(37,.pl (.one (.ba [.sc (.string x)])))],[(0,.box true [.list false 1 (List.map (rK .u8) x34.2.b),.sc (.int .i64 x34.2.i),.sc (.int .i64 x34.2.h)]),(2,.list true 1 (List.map rS out__1))]⟩:=by
       refine zL [6] [.q 6 38 (.pl (.one (.v (.sc (.string x))))) [],.m 7 [6] [0,1,2,3,4,5,6,7] []] [(6,38)] [(6,true,[],[]),(7,false,[6],[0,1,2,3,4,5,6,7])] ⟨?_,?_,trivial⟩
       ·refine zG 0 ⟨51,2,3,[(0,.pl (.one (.ref 0 []))),(1,.pl (.one (.v (.list false 1 (List.map rS a))))),(6,.pl (.one (.v (.sc (.int .i64 i))))),(32,.pl (.one (.ref 2 []))),(34,.pl (.one (.v (.sc (.string x34.1))))),(37,.pl (.one (.ba [.sc (.string x)])))],[(0,.box true [.list false 1 (List.map (rK .u8) x34.2.b),.sc (.int .i64 x34.2.i),.sc (.int .i64 x34.2.h)]),(2,.list true 1 (List.map rS out__1))]⟩ ?_
        refine ops H' ?_
        refine zD ⟨rfl,shd [38,0,1,6,32,34,37] [(0,0),(2,2)] 3 rfl⟩
       ·refine zM ⟨51,2,3,[(38,.pl (.one (.v (.sc (.string x))))),(0,.pl (.one (.ref 0 []))),(1,.pl (.one (.v (.list false 1 (List.map rS a))))),(6,.pl (.one (.v (.sc (.int .i64 i))))),(32,.pl (.one (.ref 2 []))),(34,.pl (.one (.v (.sc (.string x34.1))))),(37,.pl (.one (.ba [.sc (.string x)])))],[(0,.box true [.list false 1 (List.map (rK .u8) x34.2.b),.sc (.int .i64 x34.2.i),.sc (.int .i64 x34.2.h)]),(2,.list true 1 (List.map rS out__1))]⟩ ?_
        refine ops H' ?_
        refine zD ⟨rfl,.inl ⟨rfl,?_⟩⟩
        exact zF [0,1,6,32,39] [(0,0),(2,2),(3,3)] 4 d10'
      have d12':zK X ?o2 [0,1,3,4,5] [(6,38,.pl (.one (.v (.sc (.string x)))))] ?P2 ⟨51,2,3,[(0,.pl (.one (.ref 0 []))),(1,.pl (.one (.v (.list false 1 (List.map rS a))))),(6,.pl (.one (.v (.sc (.int .i64 i))))),(32,.pl (.one (.ref 2 []))),(33,.pl (.one (.ref 0 []))),(37,.pl (.one (.ba [.sc (.string x)])))],[(0,.box true [.list false 1 (List.map (rK .u8) x15.2.b),.sc (.int .i64 x15.2.i),.sc (.int .i64 x15.2.h)]),(2,.list true 1 (List.map rS out__1))]⟩:=by
       refine zL [6] [.q 6 38 (.pl (.one (.v (.sc (.string x))))) [],.m 2 [] [0,1,2,3,4,5] [(6,38,.pl (.one (.v (.sc (.string x)))))]] [(6,38)] [(6,true,[],[]),(2,false,[],[0,1,2,3,4,5])] ⟨?_,?_,trivial⟩
       ·refine zG 0 ⟨51,2,3,[(0,.pl (.one (.ref 0 []))),(1,.pl (.one (.v (.list false 1 (List.map rS a))))),(6,.pl (.one (.v (.sc (.int .i64 i))))),(32,.pl (.one (.ref 2 []))),(33,.pl (.one (.ref 0 []))),(37,.pl (.one (.ba [.sc (.string x)])))],[(0,.box true [.list false 1 (List.map (rK .u8) x15.2.b),.sc (.int .i64 x15.2.i),.sc (.int .i64 x15.2.h)]),(2,.list true 1 (List.map rS out__1))]⟩ ?_
        refine ops H' ?_
        refine zD ⟨rfl,shd [38,0,1,6,32,33,37] [(0,0),(2,2)] 3 rfl⟩
       ·refine zM ⟨51,2,3,[(0,.pl (.one (.ref 0 []))),(1,.pl (.one (.v (.list false 1 (List.map rS a))))),(6,.pl (.one (.v (.sc (.int .i64 i))))),(32,.pl (.one (.ref 2 []))),(33,.pl (.one (.ref 0 []))),(37,.pl (.one (.ba [.sc (.string x)])))],[(0,.box true [.list false 1 (List.map (rK .u8) x15.2.b),.sc (.int .i64 x15.2.i),.sc (.int .i64 x15.2.h)]),(2,.list true 1 (List.map rS out__1))]⟩ ?_
        refine callGD H' (fun _=>[0]) (W_spec_l03Line _ _ hy_x34) ?_
        refine zD ⟨rfl,.inl ⟨rfl,?_⟩⟩
        exact zF [0,1,6,32,34,37] [(0,0),(2,2)] 3 d11'
      refine fpure H' 0 [0] [(6,38)] ?_
      refine fpure H' 1 [0,1] [(6,38)] ?_
      refine fpure H' 3 [0,1,3] [(6,38)] ?_
      refine fpure H' 4 [0,1,3,4] [(6,38)] ?_
      refine fpure H' 5 [0,1,3,4,5] [(6,38)] ?_
      exact zF [0,1,6,32,33,37] [(0,0),(2,2)] 3 d12'
     ·rintro e' rfl
      refine contN ?_
      refine zB ?_
      refine ops H' ?_
      refine zE ?_
      obtain rfl:=zso h1'
      exact shd [0,1,5,6] [(0,0),(2,2)] 3 ⟨_,rfl,_,_,_,_,_,rfl,rfl⟩
    ·replace h1':=(ifF hc').symm.trans h1'
     refine zC ?_
     refine zB ?_
     refine ops H' ?_
     refine zE ?_
     refine zH (fun hc'=>?_) (fun hc'=>?_)
     ·replace h1':=(ifT hc').symm.trans h1'
      refine zR ?_
      refine zB ?_
      refine ops H' ?_
      refine zE ?_
      obtain rfl:=zso h1'
      exact shd [0,1,5,6] [(0,0),(2,2)] 3 ⟨_,rfl,_,_,_,_,_,rfl,rfl⟩
     ·replace h1':=(ifF hc').symm.trans h1'
      refine zB ?_
      obtain ⟨x_1,hv',h1'⟩:=zbi h1'
      have H':=And.intro (zP hv') H'
      obtain ⟨l_3,hv',h1'⟩:=zbi h1'
      have H':=And.intro (app1_f hv') H'
      refine ops H' ?_
      refine zE ?_
      refine zB ?_
      refine ops H' ?_
      refine zE ?_
      obtain rfl:=zso h1'
      exact shd [0,1,5,6] [(0,0),(2,2)] 3 ⟨_,rfl,_,_,_,_,_,rfl,rfl⟩
  ·replace h1':=(ifF hc').symm.trans h1'
   refine exitN ?_
   obtain rfl:=zso h1'
   refine ⟨_,rfl,fun hr'=>?_⟩
   subst hr'
   exact shd [0,5] [(0,0),(2,2)] 3 ⟨_,_,_,_,h0',rfl⟩
 ·rintro e' ⟨c_1,c_2,c_3,out_,h0',rfl⟩
  unfold spec_l04Near_j1 at h0'
  refine zC ?_
  refine zC ?_
  refine zB ?_
  refine ops H' ?_
  obtain ⟨x44,hy',h0'⟩:=zbi h0'
  refine callGD H' (fun _=>[0]) (W_spec_l01Once _ _ _ hy') ?_
  refine zE ?_
  refine zH (fun hc'=>?_) (fun hc'=>?_)
  ·replace h0':=(ifT hc').symm.trans h0'
   refine zB ?_
   refine ops H' ?_
   obtain ⟨x47,hy',h0'⟩:=zbi h0'
   refine callGD H' (fun _=>[0]) (W_spec_l03Line _ _ hy') ?_
   obtain ⟨l,hv',h0'⟩:=zbi h0'
   have H':=And.intro (app1_f hv') H'
   refine ops H' ?_
   refine zE ?_
   refine zC ?_
   refine zB ?_
   refine ops H' ?_
   refine zE ?_
   refine retN ?_
   obtain rfl:=zso h0'
   exact outG H' rfl rfl
  ·replace h0':=(ifF hc').symm.trans h0'
   refine zR ?_
   refine zC ?_
   refine zB ?_
   refine ops H' ?_
   refine zE ?_
   refine retN ?_
   obtain rfl:=zso h0'
   exact outG H' rfl rfl
theorem W_spec_l03Lines (c:T_spec_l01Cur) (n:Int) (r':(List ByteArray)×T_spec_l01Cur) (h0':spec_l03Lines c n=some r'):Fn X 163 [.one (.box true [.list false 1 (List.map (rK .u8) c.b),.sc (.int .i64 c.i),.sc (.int .i64 c.h)]),.one (.sc (.int .i64 n))] [.one (.list true 1 (List.map rS r'.1))] [(0,.box true [.list false 1 (List.map (rK .u8) r'.2.b),.sc (.int .i64 r'.2.i),.sc (.int .i64 r'.2.h)])]:=by
 have H':=And.intro t3 (And.intro t9 (And.intro t55 (And.intro R_s (R_u8))))
 unfold spec_l03Lines at h0'
 refine Fn.start (fn:=f163) (N:=22) (res:=[.tmp 4]) rfl rfl rfl rfl rfl (by simp) ?_
 refine zW H' ?_
 refine zC ?_
 refine zB ?_
 refine ops H' ?_
 refine zE ?_
 refine zC ?_
 refine zB ?_
 refine ops H' ?_
 refine zE ?_
 refine zU (fun e'=>∃ c_1 c_2 c_3 out_,spec_l03Lines_j1 c_1 c_2 c_3 out_=some r'∧e'=⟨22,2,3,[(5,.pl (.one (.ref 2 [])))],[(0,.box true [.list false 1 (List.map (rK .u8) c_1),.sc (.int .i64 c_2),.sc (.int .i64 c_3)]),(2,.list true 1 (List.map rS out_))]⟩) ?_ ?_
 ·refine zC ?_
  refine zB ?_
  refine ops H' ?_
  refine zE ?_
  obtain ⟨p,hl',h0'⟩:=zbi h0'
  refine zJ ?_
  refine zX (fun s' e'=>∃ i c_4 c_5 c_6 out__1,s'=(i,c_4,c_5,c_6,out__1)∧e'=⟨22,2,3,[(0,.pl (.one (.ref 0 []))),(1,.pl (.one (.v (.sc (.int .i64 n))))),(5,.pl (.one (.ref 2 []))),(6,.pl (.one (.v (.sc (.int .i64 i)))))],[(0,.box true [.list false 1 (List.map (rK .u8) c_4),.sc (.int .i64 c_5),.sc (.int .i64 c_6)]),(2,.list true 1 (List.map rS out__1))]⟩) hl' (shd [0,1,5,6] [(0,0),(3,2)] 3 ⟨_,_,_,_,_,rfl,rfl⟩) ?_
  rintro s' y1' e' h1' ⟨i,c_4,c_5,c_6,out__1,rfl,rfl⟩
  replace h1':spec_l03Lines_l1 n i c_4 c_5 c_6 out__1=some y1':=h1'
  unfold spec_l03Lines_l1 at h1'
  refine zC ?_
  refine zC ?_
  refine zB ?_
  refine ops H' ?_
  obtain ⟨x12,hy',h1'⟩:=zbi h1'
  refine callGD H' (fun _=>[0]) (W_spec_l01Below _ _ _ hy') ?_
  refine ops H' ?_
  refine zE ?_
  refine zH (fun hc'=>?_) (fun hc'=>?_)
  ·replace h1':=(ifT hc').symm.trans h1'
   refine zR ?_
   refine zC ?_
   refine zJ ?_
   refine zB ?_
   refine ops H' ?_
   obtain ⟨x18,hy',h1'⟩:=zbi h1'
   refine callGD H' (fun _=>[0]) (W_spec_l03Line _ _ hy') ?_
   obtain ⟨l,hv',h1'⟩:=zbi h1'
   have H':=And.intro (app1_f hv') H'
   refine ops H' ?_
   refine zE ?_
   refine zB ?_
   refine ops H' ?_
   refine zE ?_
   obtain rfl:=zso h1'
   exact shd [0,1,5,6] [(0,0),(2,2)] 3 ⟨_,rfl,_,_,_,_,_,rfl,rfl⟩
  ·replace h1':=(ifF hc').symm.trans h1'
   refine exitN ?_
   obtain rfl:=zso h1'
   refine ⟨_,rfl,fun hr'=>?_⟩
   subst hr'
   exact shd [5] [(0,0),(2,2)] 3 ⟨_,_,_,_,h0',rfl⟩
 ·rintro e' ⟨c_1,c_2,c_3,out_,h0',rfl⟩
  unfold spec_l03Lines_j1 at h0'
  refine zC ?_
  refine zB ?_
  refine ops H' ?_
  refine zE ?_
  refine retN ?_
  obtain rfl:=zso h0'
  exact outG H' rfl rfl
theorem W_spec_l05Rise (list_:List Int) (n:Int) (r':Bool) (h0':spec_l05Rise list_ n=some r'):Fn X 172 [.one (.list false 1 (List.map (rK .i64) list_)),.one (.sc (.int .i64 n))] [.one (.sc (.bool r'))] []:=by
 have H':=And.intro t3 (And.intro t44 (R_i64))
 unfold spec_l05Rise at h0'
 refine Fn.start (fn:=f172) (N:=36) (res:=[.tmp 4]) rfl rfl rfl rfl rfl (by simp) ?_
 refine zW H' ?_
 refine zC ?_
 refine zB ?_
 refine ops H' ?_
 refine zE ?_
 refine zU (fun e'=>spec_l05Rise_j1=some r'∧e'=⟨36,2,2,[],[]⟩) ?_ ?_
 ·refine zC ?_
  refine zB ?_
  refine ops H' ?_
  refine zE ?_
  obtain ⟨p,hl',h0'⟩:=zbi h0'
  refine zJ ?_
  refine zX (fun i e'=>e'=⟨36,2,2,[(0,.pl (.one (.v (.list false 1 (List.map (rK .i64) list_))))),(1,.pl (.one (.v (.sc (.int .i64 n))))),(5,.pl (.one (.v (.sc (.int .i64 i)))))],[]⟩) hl' (shd [0,1,5] [] 2 rfl) ?_
  rintro i y1' e' h1' rfl
  replace h1':qR list_ n i=some y1':=h1'
  unfold qR at h1'
  refine zC ?_
  refine zC ?_
  refine zB ?_
  refine ops H' ?_
  refine zE ?_
  refine zH (fun hc'=>?_) (fun hc'=>?_)
  ·replace h1':=(ifT hc').symm.trans h1'
   refine zR ?_
   refine zC ?_
   refine zJ ?_
   refine zC ?_
   refine regQ ?_
   obtain ⟨x,hv',h1'⟩:=zbi h1'
   have H':=And.intro (zP hv') H'
   refine ops H' ?_
   obtain ⟨x18,hy',h1'⟩:=zbi h1'
   refine callGQ H' (W_spec_l01In _ _ _ _ hy') ?_
   refine ops H' ?_
   obtain ⟨b,gh1',h1'⟩:=zbi h1'
   refine quV_cut 15 (fun e'=>e'=⟨36,2,2,[(0,.pl (.one (.v (.list false 1 (List.map (rK .i64) list_))))),(1,.pl (.one (.v (.sc (.int .i64 n))))),(5,.pl (.one (.v (.sc (.int .i64 i))))),(35,.pl (.one (.v (.sc (.bool b)))))],[]⟩) ?_ ?_
   ·simp only [List.take_succ_cons,List.take_zero]
    refine quV_sp (fun hc'=>?_) (fun hc'=>?_)
    ·replace gh1':=(ifF hc').symm.trans gh1'
     refine ops H' ?_
     obtain ⟨b_1,ggh1',gh1'⟩:=zbi gh1'
     refine quV_cut 11 (fun e'=>e'=⟨36,2,2,[(0,.pl (.one (.v (.list false 1 (List.map (rK .i64) list_))))),(1,.pl (.one (.v (.sc (.int .i64 n))))),(5,.pl (.one (.v (.sc (.int .i64 i))))),(20,.pl (.one (.v (.sc (.bool false))))),(21,.pl (.one (.v (.sc (.int .i64 i))))),(22,.pl (.one (.v (.sc (.bool (decide (i > 0))))))),(34,.pl (.one (.v (.sc (.bool b_1)))))],[]⟩) ?_ ?_
     ·simp only [List.take_succ_cons,List.take_zero]
      refine quV_sp (fun hc'=>?_) (fun hc'=>?_)
      ·replace ggh1':=(ifT hc').symm.trans ggh1'
       obtain ⟨x_1,hv',ggh1'⟩:=zbi ggh1'
       have H':=And.intro (zP hv') H'
       refine ops H' ?_
       obtain rfl:=zso ggh1'
       refine quV_nil ?_
       exact ⟨rfl,shd [0,1,5,20,21,22,34] [] 2 rfl⟩
      ·replace ggh1':=(ifF hc').symm.trans ggh1'
       refine ops H' ?_
       obtain rfl:=zso ggh1'
       refine quV_nil ?_
       exact ⟨rfl,shd [0,1,5,20,21,22,34] [] 2 rfl⟩
     ·rintro e' rfl
      simp only [List.drop_succ_cons,List.drop_zero]
      refine ops H' ?_
      obtain rfl:=zso gh1'
      refine quV_nil ?_
      exact ⟨rfl,shd [0,1,5,35] [] 2 rfl⟩
    ·replace gh1':=(ifT hc').symm.trans gh1'
     refine ops H' ?_
     obtain rfl:=zso gh1'
     refine quV_nil ?_
     exact ⟨rfl,shd [0,1,5,35] [] 2 rfl⟩
   ·rintro e' rfl
    simp only [List.drop_succ_cons,List.drop_zero]
    refine quN ?_
    refine zH (fun hc'=>?_) (fun hc'=>?_)
    ·replace h1':=(ifT hc').symm.trans h1'
     refine zC ?_
     refine zB ?_
     refine ops H' ?_
     refine zE ?_
     refine retN ?_
     obtain rfl:=zso h1'
     refine ⟨_,rfl,fun hr'=>?_⟩
     subst hr'
     obtain rfl:=zso h0'
     exact outG H' rfl rfl
    ·replace h1':=(ifF hc').symm.trans h1'
     refine zR ?_
     refine zB ?_
     refine ops H' ?_
     refine zE ?_
     obtain rfl:=zso h1'
     exact shd [0,1,5] [] 2 ⟨_,rfl,rfl⟩
  ·replace h1':=(ifF hc').symm.trans h1'
   refine exitN ?_
   obtain rfl:=zso h1'
   refine ⟨_,rfl,fun hr'=>?_⟩
   subst hr'
   exact shd [] [] 2 ⟨h0',rfl⟩
 ·rintro e' ⟨h0',rfl⟩
  unfold spec_l05Rise_j1 at h0'
  refine zC ?_
  refine zB ?_
  refine ops H' ?_
  refine zE ?_
  refine retN ?_
  obtain rfl:=zso h0'
  exact outG H' rfl rfl
theorem W_spec_l06Parents (w:T_impl_Weave) (parents:List Int) (r':Bool) (h0':spec_l06Parents w parents=some r'):Fn X 102 [.agg [.list false 1 (List.map (rL false 1 (rK .i64)) w.Parents),.list false 4 (List.map (zA false) w.Bodies)],.one (.list false 1 (List.map (rK .i64) parents))] [.one (.sc (.bool r'))] []:=by
 have H':=And.intro t3 (And.intro t38 (And.intro t41 (And.intro t44 (And.intro R_Li64 (And.intro qD (R_i64))))))
 unfold spec_l06Parents at h0'
 refine Fn.start (fn:=f102) (N:=15) (res:=[.tmp 4]) rfl rfl rfl rfl rfl (by simp) ?_
 refine zW H' ?_
 refine zC ?_
 refine zB ?_
 refine ops H' ?_
 refine zE ?_
 refine zC ?_
 refine zB ?_
 refine ops H' ?_
 obtain ⟨b,gh0',h0'⟩:=zbi h0'
 refine qG 6 (fun e'=>e'=⟨15,3,3,[(14,.pl (.one (.v (.sc (.bool b)))))],[]⟩) ?_ ?_
 ·simp only [List.take_succ_cons,List.take_zero]
  refine opsV_sp (fun hc'=>?_) (fun hc'=>?_)
  ·replace gh0':=(ifT hc').symm.trans gh0'
   refine ops H' ?_
   obtain ⟨x13,hy',gh0'⟩:=zbi gh0'
   refine zO H' (fun _=>[]) (W_spec_l05Rise _ _ _ hy') ?_
   refine ops H' ?_
   obtain rfl:=zso gh0'
   refine zD ?_
   exact ⟨rfl,shd [14] [] 3 rfl⟩
  ·replace gh0':=(ifF hc').symm.trans gh0'
   refine ops H' ?_
   obtain rfl:=zso gh0'
   refine zD ?_
   exact ⟨rfl,shd [14] [] 3 rfl⟩
 ·rintro e' rfl
  simp only [List.drop_succ_cons,List.drop_zero]
  refine ops H' ?_
  refine zE ?_
  refine retN ?_
  obtain rfl:=zso h0'
  exact outG H' rfl rfl
end Go.TV.KFnLives
