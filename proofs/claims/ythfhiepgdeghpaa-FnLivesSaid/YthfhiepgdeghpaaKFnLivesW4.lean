/- Walks. -/
import Derived.Test.YthfhiepgdeghpaaKFnLivesE
import Derived.Test.YthfhiepgdeghpaaKFnLivesW3
set_option linter.unusedVariables false
set_option linter.unusedSimpArgs false
set_option maxHeartbeats 8000000
set_option maxRecDepth 100000
namespace Go.TV.KFnLives
attribute [local irreducible] anyV wpV opsV Does thenV blockV RetL quV seqV
open Go.Proofs.Try Go.TV.F
theorem W_impl_bodiesOk (w:T_impl_Weave) (closed:List Int) (r':Bool) (h0':impl_bodiesOk w closed=some r'):Fn X 167 [.agg [.list false 1 (List.map (rL false 1 (rK .i64)) w.Parents),.list false 4 (List.map (zA false) w.Bodies)],.one (.list false 1 (List.map (rK .u64) closed))] [.one (.sc (.bool r'))] []:=by
 have H':=And.intro t3 (And.intro t9 (And.intro t38 (And.intro t39 (And.intro t41 (And.intro t44 (And.intro t50 (And.intro t133 (And.intro t137 (And.intro R_Li64 (And.intro qD (And.intro R_i64 (R_u64))))))))))))
 unfold impl_bodiesOk at h0'
 refine Fn.start (fn:=f167) (N:=97) (res:=[.tmp 4]) rfl rfl rfl rfl rfl (by simp) ?_
 refine zW H' ?_
 refine zC ?_
 refine zB ?_
 refine ops H' ?_
 refine zE ?_
 refine zC ?_
 refine zB ?_
 obtain ⟨x14,hv',h0'⟩:=zbi h0'
 have H':=And.intro (mkl_f hv') H'
 refine ops H' ?_
 refine zE ?_
 refine zU (fun e'=>∃ born,impl_bodiesOk_j1 w closed born=some r'∧e'=⟨97,3,5,[(1,.pl (.one (.v (.list false 1 (List.map (rK .u64) closed))))),(2,.pl (.one (.ref 3 []))),(5,.pl (.one (.ref 4 [])))],[(3,.box true [.list false 1 (List.map (rL false 1 (rK .i64)) w.Parents),.list false 4 (List.map (zA false) w.Bodies)]),(4,.list true 1 (List.map (rK .i64) born))]⟩) ?_ ?_
 ·refine zC ?_
  refine zB ?_
  refine ops H' ?_
  refine zE ?_
  obtain ⟨p_1,hl',h0'⟩:=zbi h0'
  refine zJ ?_
  refine zX (fun s' e'=>∃ x18 born_1,s'=(x18,born_1)∧e'=⟨97,3,5,[(1,.pl (.one (.v (.list false 1 (List.map (rK .u64) closed))))),(2,.pl (.one (.ref 3 []))),(5,.pl (.one (.ref 4 []))),(16,.pl (.one (.v (.list false 4 (List.map (zA false) w.Bodies))))),(17,.pl (.one (.v (.sc (.int .i64 (w.Bodies.length:Int)))))),(18,.pl (.one (.v (.sc (.int .i64 x18)))))],[(3,.box true [.list false 1 (List.map (rL false 1 (rK .i64)) w.Parents),.list false 4 (List.map (zA false) w.Bodies)]),(4,.list true 1 (List.map (rK .i64) born_1))]⟩) hl' (shd [1,2,5,16,17,18] [(3,3),(4,4)] 5 ⟨_,_,rfl,rfl⟩) ?_
  rintro s' y1' e' h1' ⟨x18,born_1,rfl,rfl⟩
  replace h1':qI w closed x18 born_1=some y1':=h1'
  unfold qI at h1'
  refine zC ?_
  refine zB ?_
  refine ops H' ?_
  refine zE ?_
  refine zC ?_
  refine zH (fun hc'=>?_) (fun hc'=>?_)
  ·replace h1':=(ifT hc').symm.trans h1'
   refine zR ?_
   refine zU (fun e'=>∃ born_2,impl_bodiesOk_j3 x18 born_2=some y1'∧e'=⟨97,3,5,[(1,.pl (.one (.v (.list false 1 (List.map (rK .u64) closed))))),(2,.pl (.one (.ref 3 []))),(5,.pl (.one (.ref 4 []))),(16,.pl (.one (.v (.list false 4 (List.map (zA false) w.Bodies))))),(17,.pl (.one (.v (.sc (.int .i64 (w.Bodies.length:Int)))))),(18,.pl (.one (.v (.sc (.int .i64 x18)))))],[(3,.box true [.list false 1 (List.map (rL false 1 (rK .i64)) w.Parents),.list false 4 (List.map (zA false) w.Bodies)]),(4,.list true 1 (List.map (rK .i64) born_2))]⟩) ?_ ?_
   ·refine zJ ?_
    refine zC ?_
    refine zB ?_
    obtain ⟨x_2,hv',h1'⟩:=zbi h1'
    have H':=And.intro (zP hv') H'
    refine ops H' ?_
    refine zE ?_
    refine zC ?_
    refine zC ?_
    refine regQ ?_
    refine ops H' ?_
    obtain ⟨x24,hy',h1'⟩:=zbi h1'
    refine callGQ H' (W_impl_LineOk _ _ hy') ?_
    refine ops H' ?_
    obtain ⟨b_1,gh1',h1'⟩:=zbi h1'
    refine quV_cut 7 (fun e'=>e'=⟨97,3,6,[(1,.pl (.one (.v (.list false 1 (List.map (rK .u64) closed))))),(2,.pl (.one (.ref 3 []))),(5,.pl (.one (.ref 4 []))),(7,.pl (.one (.ref 5 []))),(16,.pl (.one (.v (.list false 4 (List.map (zA false) w.Bodies))))),(17,.pl (.one (.v (.sc (.int .i64 (w.Bodies.length:Int)))))),(18,.pl (.one (.v (.sc (.int .i64 x18))))),(33,.pl (.one (.v (.sc (.bool b_1)))))],[(3,.box true [.list false 1 (List.map (rL false 1 (rK .i64)) w.Parents),.list false 4 (List.map (zA false) w.Bodies)]),(4,.list true 1 (List.map (rK .i64) born_1)),(5,.box true [.sc (.string x_2.Line),.sc (.int .i64 x_2.Ins),.sc (.int .i64 x_2.Ord),.list false 1 (List.map (rK .i64) x_2.Dels)])]⟩) ?_ ?_
    ·simp only [List.take_succ_cons,List.take_zero]
     refine quV_sp (fun hc'=>?_) (fun hc'=>?_)
     ·replace gh1':=(ifF hc').symm.trans gh1'
      refine ops H' ?_
      obtain ⟨x31,hy',gh1'⟩:=zbi gh1'
      refine callGQ H' (W_impl_isPlace _ _ _ hy') ?_
      refine ops H' ?_
      obtain rfl:=zso gh1'
      refine quV_nil ?_
      exact ⟨rfl,shd [1,2,5,7,16,17,18,33] [(3,3),(4,4),(5,5)] 6 rfl⟩
     ·replace gh1':=(ifT hc').symm.trans gh1'
      refine ops H' ?_
      obtain rfl:=zso gh1'
      refine quV_nil ?_
      exact ⟨rfl,shd [1,2,5,7,16,17,18,33] [(3,3),(4,4),(5,5)] 6 rfl⟩
    ·rintro e' rfl
     simp only [List.drop_succ_cons,List.drop_zero]
     refine ops H' ?_
     obtain ⟨b_2,gh1',h1'⟩:=zbi h1'
     refine quV_cut 9 (fun e'=>e'=⟨97,3,6,[(1,.pl (.one (.v (.list false 1 (List.map (rK .u64) closed))))),(2,.pl (.one (.ref 3 []))),(5,.pl (.one (.ref 4 []))),(7,.pl (.one (.ref 5 []))),(16,.pl (.one (.v (.list false 4 (List.map (zA false) w.Bodies))))),(17,.pl (.one (.v (.sc (.int .i64 (w.Bodies.length:Int)))))),(18,.pl (.one (.v (.sc (.int .i64 x18))))),(43,.pl (.one (.v (.sc (.bool b_2)))))],[(3,.box true [.list false 1 (List.map (rL false 1 (rK .i64)) w.Parents),.list false 4 (List.map (zA false) w.Bodies)]),(4,.list true 1 (List.map (rK .i64) born_1)),(5,.box true [.sc (.string x_2.Line),.sc (.int .i64 x_2.Ins),.sc (.int .i64 x_2.Ord),.list false 1 (List.map (rK .i64) x_2.Dels)])]⟩) ?_ ?_
     ·simp only [List.take_succ_cons,List.take_zero]
      refine quV_sp (fun hc'=>?_) (fun hc'=>?_)
      ·replace gh1':=(ifF hc').symm.trans gh1'
       obtain ⟨x_3,hv',gh1'⟩:=zbi gh1'
       have H':=And.intro (zP hv') H'
       refine ops H' ?_
       obtain rfl:=zso gh1'
       refine quV_nil ?_
       exact ⟨rfl,shd [1,2,5,7,16,17,18,43] [(3,3),(4,4),(5,5)] 6 rfl⟩
      ·replace gh1':=(ifT hc').symm.trans gh1'
       refine ops H' ?_
       obtain rfl:=zso gh1'
       refine quV_nil ?_
       exact ⟨rfl,shd [1,2,5,7,16,17,18,43] [(3,3),(4,4),(5,5)] 6 rfl⟩
     ·rintro e' rfl
      simp only [List.drop_succ_cons,List.drop_zero]
      refine ops H' ?_
      obtain ⟨b_3,gh1',h1'⟩:=zbi h1'
      refine quV_cut 7 (fun e'=>e'=⟨97,3,6,[(1,.pl (.one (.v (.list false 1 (List.map (rK .u64) closed))))),(2,.pl (.one (.ref 3 []))),(5,.pl (.one (.ref 4 []))),(7,.pl (.one (.ref 5 []))),(16,.pl (.one (.v (.list false 4 (List.map (zA false) w.Bodies))))),(17,.pl (.one (.v (.sc (.int .i64 (w.Bodies.length:Int)))))),(18,.pl (.one (.v (.sc (.int .i64 x18))))),(51,.pl (.one (.v (.sc (.bool b_3)))))],[(3,.box true [.list false 1 (List.map (rL false 1 (rK .i64)) w.Parents),.list false 4 (List.map (zA false) w.Bodies)]),(4,.list true 1 (List.map (rK .i64) born_1)),(5,.box true [.sc (.string x_2.Line),.sc (.int .i64 x_2.Ins),.sc (.int .i64 x_2.Ord),.list false 1 (List.map (rK .i64) x_2.Dels)])]⟩) ?_ ?_
      ·simp only [List.take_succ_cons,List.take_zero]
       refine quV_sp (fun hc'=>?_) (fun hc'=>?_)
       ·replace gh1':=(ifF hc').symm.trans gh1'
        refine ops H' ?_
        obtain ⟨x49,hy',gh1'⟩:=zbi gh1'
        refine callGQ H' (W_impl_ascends _ _ _ hy') ?_
        refine ops H' ?_
        obtain rfl:=zso gh1'
        refine quV_nil ?_
        exact ⟨rfl,shd [1,2,5,7,16,17,18,51] [(3,3),(4,4),(5,5)] 6 rfl⟩
       ·replace gh1':=(ifT hc').symm.trans gh1'
        refine ops H' ?_
        obtain rfl:=zso gh1'
        refine quV_nil ?_
        exact ⟨rfl,shd [1,2,5,7,16,17,18,51] [(3,3),(4,4),(5,5)] 6 rfl⟩
      ·rintro e' rfl
       simp only [List.drop_succ_cons,List.drop_zero]
       refine quN ?_
       refine zH (fun hc'=>?_) (fun hc'=>?_)
       ·replace h1':=(ifT hc').symm.trans h1'
        refine zC ?_
        refine zB ?_
        refine ops H' ?_
        refine zE ?_
        refine retN ?_
        obtain rfl:=zso h1'
        refine ⟨_,rfl,fun hr'=>?_⟩
        subst hr'
        obtain rfl:=zso h0'
        exact outG H' rfl rfl
       ·replace h1':=(ifF hc').symm.trans h1'
        refine zR ?_
        refine zC ?_
        refine zB ?_
        obtain ⟨x_4,hv',h1'⟩:=zbi h1'
        have H':=And.intro (zP hv') H'
        refine ops H' ?_
        refine zE ?_
        refine zC ?_
        refine zB ?_
        refine ops H' ?_
        refine zE ?_
        obtain ⟨p_2,hl',h1'⟩:=zbi h1'
        refine zJ ?_
        refine zX (fun x62 e'=>e'=⟨97,3,6,[(1,.pl (.one (.v (.list false 1 (List.map (rK .u64) closed))))),(2,.pl (.one (.ref 3 []))),(5,.pl (.one (.ref 4 []))),(7,.pl (.one (.ref 5 []))),(16,.pl (.one (.v (.list false 4 (List.map (zA false) w.Bodies))))),(17,.pl (.one (.v (.sc (.int .i64 (w.Bodies.length:Int)))))),(18,.pl (.one (.v (.sc (.int .i64 x18))))),(60,.pl (.one (.v (.list false 1 (List.map (rK .i64) x_2.Dels))))),(61,.pl (.one (.v (.sc (.int .i64 (x_2.Dels.length:Int)))))),(62,.pl (.one (.v (.sc (.int .i64 x62)))))],[(3,.box true [.list false 1 (List.map (rL false 1 (rK .i64)) w.Parents),.list false 4 (List.map (zA false) w.Bodies)]),(4,.list true 1 (List.map (rK .i64) (born_1.set x_2.Ins.toNat (wk .i64 (x_4+1))))),(5,.box true [.sc (.string x_2.Line),.sc (.int .i64 x_2.Ins),.sc (.int .i64 x_2.Ord),.list false 1 (List.map (rK .i64) x_2.Dels)])]⟩) hl' (shd [1,2,5,7,16,17,18,60,61,62] [(3,3),(4,4),(5,5)] 6 rfl) ?_
        rintro x62 y2' e' h2' rfl
        replace h2':impl_bodiesOk_l3 w closed x_2 x62=some y2':=h2'
        unfold impl_bodiesOk_l3 at h2'
        refine zC ?_
        refine zB ?_
        refine ops H' ?_
        refine zE ?_
        refine zC ?_
        refine zH (fun hc'=>?_) (fun hc'=>?_)
        ·replace h2':=(ifT hc').symm.trans h2'
         refine zR ?_
         refine zC ?_
         refine zJ ?_
         refine zC ?_
         refine zB ?_
         obtain ⟨x_5,hv',h2'⟩:=zbi h2'
         have H':=And.intro (zP hv') H'
         refine ops H' ?_
         refine zE ?_
         refine zC ?_
         refine regQ ?_
         obtain ⟨x_6,hv',h2'⟩:=zbi h2'
         have H':=And.intro (zP hv') H'
         refine ops H' ?_
         obtain ⟨x73,hy',h2'⟩:=zbi h2'
         refine callGQ H' (W_impl_unionOf _ _ _ hy') ?_
         obtain ⟨x74,hy',h2'⟩:=zbi h2'
         refine callGQ H' (W_impl_Body_isLive _ _ _ hy') ?_
         refine ops H' ?_
         refine quN ?_
         refine zH (fun hc'=>?_) (fun hc'=>?_)
         ·replace h2':=(ifT hc').symm.trans h2'
          refine zC ?_
          refine zB ?_
          refine ops H' ?_
          refine zE ?_
          refine retN ?_
          obtain rfl:=zso h2'
          refine ⟨_,rfl,fun hr'=>?_⟩
          subst hr'
          obtain rfl:=zso h1'
          refine ⟨_,rfl,fun hr'=>?_⟩
          subst hr'
          obtain rfl:=zso h0'
          exact outG H' rfl rfl
         ·replace h2':=(ifF hc').symm.trans h2'
          refine zR ?_
          refine zB ?_
          refine ops H' ?_
          refine zE ?_
          obtain rfl:=zso h2'
          exact shd [1,2,5,7,16,17,18,60,61,62] [(3,3),(4,4),(5,5)] 6 ⟨_,rfl,rfl⟩
        ·replace h2':=(ifF hc').symm.trans h2'
         refine exitN ?_
         obtain rfl:=zso h2'
         refine ⟨_,rfl,fun hr'=>?_⟩
         subst hr'
         exact shd [1,2,5,16,17,18] [(3,3),(4,4)] 5 ⟨_,h1',rfl⟩
   ·rintro e' ⟨born_2,h1',rfl⟩
    unfold impl_bodiesOk_j3 at h1'
    refine zB ?_
    refine ops H' ?_
    refine zE ?_
    obtain rfl:=zso h1'
    exact shd [1,2,5,16,17,18] [(3,3),(4,4)] 5 ⟨_,rfl,_,_,rfl,rfl⟩
  ·replace h1':=(ifF hc').symm.trans h1'
   refine exitN ?_
   obtain rfl:=zso h1'
   refine ⟨_,rfl,fun hr'=>?_⟩
   subst hr'
   exact shd [1,2,5] [(3,3),(4,4)] 5 ⟨_,h0',rfl⟩
 ·rintro e' ⟨born,h0',rfl⟩
  unfold impl_bodiesOk_j1 at h0'
  refine zU (fun e'=>impl_bodiesOk_j2=some r'∧e'=⟨97,3,3,[],[]⟩) ?_ ?_
  ·refine zC ?_
   refine zB ?_
   refine ops H' ?_
   refine zE ?_
   obtain ⟨p,hl',h0'⟩:=zbi h0'
   refine zJ ?_
   refine zX (fun x80 e'=>e'=⟨97,3,5,[(2,.pl (.one (.ref 3 []))),(5,.pl (.one (.ref 4 []))),(78,.pl (.one (.v (.list false 1 (List.map (rK .u64) closed))))),(79,.pl (.one (.v (.sc (.int .i64 (closed.length:Int)))))),(80,.pl (.one (.v (.sc (.int .i64 x80)))))],[(3,.box true [.list false 1 (List.map (rL false 1 (rK .i64)) w.Parents),.list false 4 (List.map (zA false) w.Bodies)]),(4,.list true 1 (List.map (rK .i64) born))]⟩) hl' (shd [2,5,78,79,80] [(3,3),(4,4)] 5 rfl) ?_
   rintro x80 y1' e' h1' rfl
   replace h1':impl_bodiesOk_l1 w closed born x80=some y1':=h1'
   unfold impl_bodiesOk_l1 at h1'
   refine zC ?_
   refine zB ?_
   refine ops H' ?_
   refine zE ?_
   refine zC ?_
   refine zH (fun hc'=>?_) (fun hc'=>?_)
   ·replace h1':=(ifT hc').symm.trans h1'
    refine zR ?_
    refine zC ?_
    refine zJ ?_
    refine zC ?_
    refine zB ?_
    obtain ⟨x,hv',h1'⟩:=zbi h1'
    have H':=And.intro (zP hv') H'
    refine ops H' ?_
    refine zE ?_
    refine zC ?_
    refine zB ?_
    obtain ⟨x_1,hv',h1'⟩:=zbi h1'
    have H':=And.intro (zP hv') H'
    refine ops H' ?_
    obtain ⟨b,gh1',h1'⟩:=zbi h1'
    refine qG 5 (fun e'=>e'=⟨97,3,5,[(2,.pl (.one (.ref 3 []))),(5,.pl (.one (.ref 4 []))),(78,.pl (.one (.v (.list false 1 (List.map (rK .u64) closed))))),(79,.pl (.one (.v (.sc (.int .i64 (closed.length:Int)))))),(80,.pl (.one (.v (.sc (.int .i64 x80))))),(95,.pl (.one (.v (.sc (.bool b)))))],[(3,.box true [.list false 1 (List.map (rL false 1 (rK .i64)) w.Parents),.list false 4 (List.map (zA false) w.Bodies)]),(4,.list true 1 (List.map (rK .i64) born))]⟩) ?_ ?_
    ·simp only [List.take_succ_cons,List.take_zero]
     refine opsV_sp (fun hc'=>?_) (fun hc'=>?_)
     ·replace gh1':=(ifF hc').symm.trans gh1'
      refine ops H' ?_
      obtain ⟨x92,hy',gh1'⟩:=zbi gh1'
      refine zO H' (fun _=>[]) (W_impl_Weave_liveIn _ _ _ hy') ?_
      refine ops H' ?_
      obtain rfl:=zso gh1'
      refine zD ?_
      exact ⟨rfl,shd [2,5,78,79,80,95] [(3,3),(4,4)] 5 rfl⟩
     ·replace gh1':=(ifT hc').symm.trans gh1'
      refine ops H' ?_
      obtain rfl:=zso gh1'
      refine zD ?_
      exact ⟨rfl,shd [2,5,78,79,80,95] [(3,3),(4,4)] 5 rfl⟩
    ·rintro e' rfl
     simp only [List.drop_succ_cons,List.drop_zero]
     refine zE ?_
     refine zH (fun hc'=>?_) (fun hc'=>?_)
     ·replace h1':=(ifT hc').symm.trans h1'
      refine zC ?_
      refine zB ?_
      refine ops H' ?_
      refine zE ?_
      refine retN ?_
      obtain rfl:=zso h1'
      refine ⟨_,rfl,fun hr'=>?_⟩
      subst hr'
      obtain rfl:=zso h0'
      exact outG H' rfl rfl
     ·replace h1':=(ifF hc').symm.trans h1'
      refine zR ?_
      refine zB ?_
      refine ops H' ?_
      refine zE ?_
      obtain rfl:=zso h1'
      exact shd [2,5,78,79,80] [(3,3),(4,4)] 5 ⟨_,rfl,rfl⟩
   ·replace h1':=(ifF hc').symm.trans h1'
    refine exitN ?_
    obtain rfl:=zso h1'
    refine ⟨_,rfl,fun hr'=>?_⟩
    subst hr'
    exact shd [] [] 3 ⟨h0',rfl⟩
  ·rintro e' ⟨h0',rfl⟩
   unfold impl_bodiesOk_j2 at h0'
   refine zC ?_
   refine zB ?_
   refine ops H' ?_
   refine zE ?_
   refine retN ?_
   obtain rfl:=zso h0'
   exact outG H' rfl rfl
theorem W_impl_WeaveOk (w:T_impl_Weave) (r':Bool) (h0':impl_WeaveOk w=some r'):Fn X 91 [.agg [.list false 1 (List.map (rL false 1 (rK .i64)) w.Parents),.list false 4 (List.map (zA false) w.Bodies)]] [.one (.sc (.bool r'))] []:=by
 have H':=And.intro t3 (And.intro t38 (And.intro t39 (And.intro t41 (And.intro R_Li64 (And.intro qD (And.intro R_i64 (R_u64)))))))
 unfold impl_WeaveOk at h0'
 refine Fn.start (fn:=f91) (N:=19) (res:=[.tmp 2]) rfl rfl rfl rfl rfl (by simp) ?_
 refine zW H' ?_
 refine zC ?_
 refine zB ?_
 refine ops H' ?_
 refine zE ?_
 refine zC ?_
 obtain ⟨b,gh0_1_0,h0'⟩:=zbi h0'
 obtain ⟨b_1,gh1_1_0,h0'⟩:=zbi h0'
 refine wpV_J (fun e'=>e'=⟨19,2,2,[(2,.pl (.one (.v (.sc (.bool b_1)))))],[]⟩) ?_ ?_
 ·rcases Bool.eq_false_or_eq_true (decide ((w.Bodies.length:Int)≤300)) with hc4_1_0 | hc4_1_0
  ·replace gh0_1_0:=(ifT hc4_1_0).symm.trans gh0_1_0
   obtain ⟨x10,hy_x10,gh0_1_0⟩:=zbi gh0_1_0
   obtain rfl:=zso gh0_1_0
   rcases Bool.eq_false_or_eq_true x10 with hc9_1_0 | hc9_1_0
   ·replace gh1_1_0:=(ifT hc9_1_0).symm.trans gh1_1_0
    obtain ⟨x16,hy_x16,gh1_1_0⟩:=zbi gh1_1_0
    obtain ⟨x17,hy_x17,gh1_1_0⟩:=zbi gh1_1_0
    obtain rfl:=zso gh1_1_0
    refine regAnyF [(1,4,.pl (.one (.v (.list false 4 (List.map (zA false) w.Bodies))))),(2,5,.pl (.one (.v (.sc (.int .i64 (w.Bodies.length:Int)))))),(3,6,.pl (.one (.v (.sc (.bool (decide ((w.Bodies.length:Int)≤300))))))),(4,7,.pl (.one (.v (.sc (.bool (decide ((w.Bodies.length:Int)≤300))))))),(6,9,.pl (.one (.v (.list false 1 (List.map (rL false 1 (rK .i64)) w.Parents))))),(7,10,.pl (.one (.v (.sc (.bool x10))))),(8,11,.pl (.one (.v (.sc (.bool x10))))),(9,12,.pl (.one (.v (.sc (.bool x10))))),(10,13,.pl (.agg [.v (.list false 1 (List.map (rL false 1 (rK .i64)) w.Parents)),.v (.list false 4 (List.map (zA false) w.Bodies))])),(12,15,.pl (.one (.v (.list false 1 (List.map (rL false 1 (rK .i64)) w.Parents))))),(14,17,.pl (.one (.v (.sc (.bool x17))))),(15,18,.pl (.one (.v (.sc (.bool x17)))))] ?_
    refine (?_:zK X ?o0 _ _ ?P0 _)
    have d0':zK X ?o0 [0,1,2,3,4,5,6,7,8,9,10,11,12,13,14,15,16] [] ?P0 ⟨19,2,2,[(2,.pl (.one (.v (.sc (.bool x17)))))],[]⟩:=by
     refine fend (e2:=⟨19,2,2,[(2,.pl (.one (.v (.sc (.bool x17)))))],[]⟩) [] [] [] [] trivial ⟨rfl,shd [2] [] 2 rfl⟩
    have d1':zK X ?o0 [0,1,2,3,4,5,6,7,8,9,11,12,13] [(10,13,.pl (.agg [.v (.list false 1 (List.map (rL false 1 (rK .i64)) w.Parents)),.v (.list false 4 (List.map (zA false) w.Bodies))])),(14,17,.pl (.one (.v (.sc (.bool x17))))),(15,18,.pl (.one (.v (.sc (.bool x17)))))] ?P0 ⟨19,2,4,[(1,.pl (.one (.ref 2 []))),(12,.pl (.one (.v (.sc (.bool x10))))),(16,.pl (.one (.ref 3 [])))],[(2,.box true [.list false 1 (List.map (rL false 1 (rK .i64)) w.Parents),.list false 4 (List.map (zA false) w.Bodies)]),(3,.list true 1 (List.map (rK .u64) x16))]⟩:=by
     refine zL [10,14,15] [.q 10 13 (.pl (.agg [.v (.list false 1 (List.map (rL false 1 (rK .i64)) w.Parents)),.v (.list false 4 (List.map (zA false) w.Bodies))])) [],.q 14 17 (.pl (.one (.v (.sc (.bool x17))))) [10],.q 15 18 (.pl (.one (.v (.sc (.bool x17))))) [14],.m 16 [10,14,15] [0,1,2,3,4,5,6,7,8,9,10,11,12,13,14,15,16] []] [(10,13),(14,17),(15,18)] [(10,true,[],[]),(14,true,[10],[]),(15,true,[14],[]),(16,false,[10,14,15],[0,1,2,3,4,5,6,7,8,9,10,11,12,13,14,15,16])] ⟨?_,?_,?_,?_,trivial⟩
     ·refine zG 0 ⟨19,2,4,[(1,.pl (.one (.ref 2 []))),(12,.pl (.one (.v (.sc (.bool x10))))),(16,.pl (.one (.ref 3 [])))],[(2,.box true [.list false 1 (List.map (rL false 1 (rK .i64)) w.Parents),.list false 4 (List.map (zA false) w.Bodies)]),(3,.list true 1 (List.map (rK .u64) x16))]⟩ ?_
      refine zI hc9_1_0 ?_
      refine ops H' ?_
      refine zD ⟨rfl,shd [13,1,12,16] [(2,2),(3,3)] 4 rfl⟩
     ·refine zG 1 ⟨19,2,4,[(13,.pl (.agg [.v (.list false 1 (List.map (rL false 1 (rK .i64)) w.Parents)),.v (.list false 4 (List.map (zA false) w.Bodies))])),(1,.pl (.one (.ref 2 []))),(12,.pl (.one (.v (.sc (.bool x10))))),(16,.pl (.one (.ref 3 [])))],[(2,.box true [.list false 1 (List.map (rL false 1 (rK .i64)) w.Parents),.list false 4 (List.map (zA false) w.Bodies)]),(3,.list true 1 (List.map (rK .u64) x16))]⟩ ?_
      refine zI hc9_1_0 ?_
      refine zO H' (fun _=>[]) (W_impl_bodiesOk _ _ _ hy_x17) ?_
      refine zD ⟨rfl,shd [17,1,12,16] [(2,2),(3,3)] 4 rfl⟩
     ·refine zG 2 ⟨19,2,4,[(17,.pl (.one (.v (.sc (.bool x17))))),(1,.pl (.one (.ref 2 []))),(12,.pl (.one (.v (.sc (.bool x10))))),(16,.pl (.one (.ref 3 [])))],[(2,.box true [.list false 1 (List.map (rL false 1 (rK .i64)) w.Parents),.list false 4 (List.map (zA false) w.Bodies)]),(3,.list true 1 (List.map (rK .u64) x16))]⟩ ?_
      refine opsPick H' hc9_1_0 ?_
      refine zD ⟨rfl,shd [18,1,12,16] [(2,2),(3,3)] 4 rfl⟩
     ·refine zM ⟨19,2,4,[(13,.pl (.agg [.v (.list false 1 (List.map (rL false 1 (rK .i64)) w.Parents)),.v (.list false 4 (List.map (zA false) w.Bodies))])),(17,.pl (.one (.v (.sc (.bool x17))))),(18,.pl (.one (.v (.sc (.bool x17))))),(1,.pl (.one (.ref 2 []))),(12,.pl (.one (.v (.sc (.bool x10))))),(16,.pl (.one (.ref 3 [])))],[(2,.box true [.list false 1 (List.map (rL false 1 (rK .i64)) w.Parents),.list false 4 (List.map (zA false) w.Bodies)]),(3,.list true 1 (List.map (rK .u64) x16))]⟩ ?_
      refine ops H' ?_
      refine zD ⟨rfl,.inl ⟨rfl,?_⟩⟩
      exact zF [2] [] 2 d0'
    have d2':zK X ?o0 [0,1,2,3,4,5,6,7,8,9,11] [(10,13,.pl (.agg [.v (.list false 1 (List.map (rL false 1 (rK .i64)) w.Parents)),.v (.list false 4 (List.map (zA false) w.Bodies))])),(12,15,.pl (.one (.v (.list false 1 (List.map (rL false 1 (rK .i64)) w.Parents))))),(14,17,.pl (.one (.v (.sc (.bool x17))))),(15,18,.pl (.one (.v (.sc (.bool x17)))))] ?P0 ⟨19,2,3,[(1,.pl (.one (.ref 2 []))),(12,.pl (.one (.v (.sc (.bool x10))))),(14,.pl (.one (.addr 2 [] 0 0 0)))],[(2,.box true [.list false 1 (List.map (rL false 1 (rK .i64)) w.Parents),.list false 4 (List.map (zA false) w.Bodies)])]⟩:=by
     refine zL [10,12] [.q 10 13 (.pl (.agg [.v (.list false 1 (List.map (rL false 1 (rK .i64)) w.Parents)),.v (.list false 4 (List.map (zA false) w.Bodies))])) [],.q 12 15 (.pl (.one (.v (.list false 1 (List.map (rL false 1 (rK .i64)) w.Parents))))) [],.m 13 [12] [0,1,2,3,4,5,6,7,8,9,11,12,13] [(10,13,.pl (.agg [.v (.list false 1 (List.map (rL false 1 (rK .i64)) w.Parents)),.v (.list false 4 (List.map (zA false) w.Bodies))])),(14,17,.pl (.one (.v (.sc (.bool x17))))),(15,18,.pl (.one (.v (.sc (.bool x17)))))]] [(10,13),(12,15),(14,17),(15,18)] [(10,true,[],[]),(12,true,[],[]),(13,false,[12],[0,1,2,3,4,5,6,7,8,9,11,12,13])] ⟨?_,?_,?_,trivial⟩
     ·refine zG 0 ⟨19,2,3,[(1,.pl (.one (.ref 2 []))),(12,.pl (.one (.v (.sc (.bool x10))))),(14,.pl (.one (.addr 2 [] 0 0 0)))],[(2,.box true [.list false 1 (List.map (rL false 1 (rK .i64)) w.Parents),.list false 4 (List.map (zA false) w.Bodies)])]⟩ ?_
      refine zI hc9_1_0 ?_
      refine ops H' ?_
      refine zD ⟨rfl,shd [13,1,12,14] [(2,2)] 3 rfl⟩
     ·refine zG 1 ⟨19,2,3,[(1,.pl (.one (.ref 2 []))),(12,.pl (.one (.v (.sc (.bool x10))))),(14,.pl (.one (.addr 2 [] 0 0 0)))],[(2,.box true [.list false 1 (List.map (rL false 1 (rK .i64)) w.Parents),.list false 4 (List.map (zA false) w.Bodies)])]⟩ ?_
      refine zI hc9_1_0 ?_
      refine ops H' ?_
      refine zD ⟨rfl,shd [15,1,12,14] [(2,2)] 3 rfl⟩
     ·refine zM ⟨19,2,3,[(15,.pl (.one (.v (.list false 1 (List.map (rL false 1 (rK .i64)) w.Parents))))),(1,.pl (.one (.ref 2 []))),(12,.pl (.one (.v (.sc (.bool x10))))),(14,.pl (.one (.addr 2 [] 0 0 0)))],[(2,.box true [.list false 1 (List.map (rL false 1 (rK .i64)) w.Parents),.list false 4 (List.map (zA false) w.Bodies)])]⟩ ?_
      refine zI hc9_1_0 ?_
      refine zO H' (fun _=>[]) (W_impl_closures _ _ hy_x16) ?_
      refine zD ⟨rfl,.inl ⟨rfl,?_⟩⟩
      exact zF [1,12,16] [(2,2),(3,3)] 4 d1'
    have d3':zK X ?o0 [0,1,2,3,4,5] [(6,9,.pl (.one (.v (.list false 1 (List.map (rL false 1 (rK .i64)) w.Parents))))),(7,10,.pl (.one (.v (.sc (.bool x10))))),(8,11,.pl (.one (.v (.sc (.bool x10))))),(9,12,.pl (.one (.v (.sc (.bool x10))))),(10,13,.pl (.agg [.v (.list false 1 (List.map (rL false 1 (rK .i64)) w.Parents)),.v (.list false 4 (List.map (zA false) w.Bodies))])),(12,15,.pl (.one (.v (.list false 1 (List.map (rL false 1 (rK .i64)) w.Parents))))),(14,17,.pl (.one (.v (.sc (.bool x17))))),(15,18,.pl (.one (.v (.sc (.bool x17)))))] ?P0 ⟨19,2,3,[(1,.pl (.one (.ref 2 []))),(7,.pl (.one (.v (.sc (.bool (decide ((w.Bodies.length:Int)≤300))))))),(8,.pl (.one (.addr 2 [] 0 0 0)))],[(2,.box true [.list false 1 (List.map (rL false 1 (rK .i64)) w.Parents),.list false 4 (List.map (zA false) w.Bodies)])]⟩:=by
     refine zL [6,7,8,9,10] [.q 6 9 (.pl (.one (.v (.list false 1 (List.map (rL false 1 (rK .i64)) w.Parents))))) [],.q 7 10 (.pl (.one (.v (.sc (.bool x10))))) [6],.q 8 11 (.pl (.one (.v (.sc (.bool x10))))) [7],.q 9 12 (.pl (.one (.v (.sc (.bool x10))))) [7,8],.q 10 13 (.pl (.agg [.v (.list false 1 (List.map (rL false 1 (rK .i64)) w.Parents)),.v (.list false 4 (List.map (zA false) w.Bodies))])) [9],.m 11 [9,7,8,6] [0,1,2,3,4,5,6,7,8,9,11] [(10,13,.pl (.agg [.v (.list false 1 (List.map (rL false 1 (rK .i64)) w.Parents)),.v (.list false 4 (List.map (zA false) w.Bodies))])),(12,15,.pl (.one (.v (.list false 1 (List.map (rL false 1 (rK .i64)) w.Parents))))),(14,17,.pl (.one (.v (.sc (.bool x17))))),(15,18,.pl (.one (.v (.sc (.bool x17)))))]] [(6,9),(7,10),(8,11),(9,12),(10,13),(12,15),(14,17),(15,18)] [(6,true,[],[]),(7,true,[6],[]),(8,true,[7],[]),(9,true,[7,8],[]),(10,true,[9],[]),(11,false,[9,7,8,6],[0,1,2,3,4,5,6,7,8,9,11])] ⟨?_,?_,?_,?_,?_,?_,trivial⟩
     ·refine zG 0 ⟨19,2,3,[(1,.pl (.one (.ref 2 []))),(7,.pl (.one (.v (.sc (.bool (decide ((w.Bodies.length:Int)≤300))))))),(8,.pl (.one (.addr 2 [] 0 0 0)))],[(2,.box true [.list false 1 (List.map (rL false 1 (rK .i64)) w.Parents),.list false 4 (List.map (zA false) w.Bodies)])]⟩ ?_
      refine zI hc4_1_0 ?_
      refine ops H' ?_
      refine zD ⟨rfl,shd [9,1,7,8] [(2,2)] 3 rfl⟩
     ·refine zG 1 ⟨19,2,3,[(9,.pl (.one (.v (.list false 1 (List.map (rL false 1 (rK .i64)) w.Parents))))),(1,.pl (.one (.ref 2 []))),(7,.pl (.one (.v (.sc (.bool (decide ((w.Bodies.length:Int)≤300))))))),(8,.pl (.one (.addr 2 [] 0 0 0)))],[(2,.box true [.list false 1 (List.map (rL false 1 (rK .i64)) w.Parents),.list false 4 (List.map (zA false) w.Bodies)])]⟩ ?_
      refine zI hc4_1_0 ?_
      refine zO H' (fun _=>[]) (W_impl_GraphOk _ _ hy_x10) ?_
      refine zD ⟨rfl,shd [10,1,7,8] [(2,2)] 3 rfl⟩
     ·refine zG 2 ⟨19,2,3,[(10,.pl (.one (.v (.sc (.bool x10))))),(1,.pl (.one (.ref 2 []))),(7,.pl (.one (.v (.sc (.bool (decide ((w.Bodies.length:Int)≤300))))))),(8,.pl (.one (.addr 2 [] 0 0 0)))],[(2,.box true [.list false 1 (List.map (rL false 1 (rK .i64)) w.Parents),.list false 4 (List.map (zA false) w.Bodies)])]⟩ ?_
      refine opsPick H' hc4_1_0 ?_
      refine zD ⟨rfl,shd [11,1,7,8] [(2,2)] 3 rfl⟩
     ·refine zG 3 ⟨19,2,3,[(10,.pl (.one (.v (.sc (.bool x10))))),(11,.pl (.one (.v (.sc (.bool x10))))),(1,.pl (.one (.ref 2 []))),(7,.pl (.one (.v (.sc (.bool (decide ((w.Bodies.length:Int)≤300))))))),(8,.pl (.one (.addr 2 [] 0 0 0)))],[(2,.box true [.list false 1 (List.map (rL false 1 (rK .i64)) w.Parents),.list false 4 (List.map (zA false) w.Bodies)])]⟩ ?_
      refine ops H' ?_
      refine zD ⟨rfl,shd [12,1,7,8] [(2,2)] 3 rfl⟩
     ·refine zG 4 ⟨19,2,3,[(12,.pl (.one (.v (.sc (.bool x10))))),(1,.pl (.one (.ref 2 []))),(7,.pl (.one (.v (.sc (.bool (decide ((w.Bodies.length:Int)≤300))))))),(8,.pl (.one (.addr 2 [] 0 0 0)))],[(2,.box true [.list false 1 (List.map (rL false 1 (rK .i64)) w.Parents),.list false 4 (List.map (zA false) w.Bodies)])]⟩ ?_
      refine zI hc9_1_0 ?_
      refine ops H' ?_
      refine zD ⟨rfl,shd [13,1,7,8] [(2,2)] 3 rfl⟩
     ·refine zM ⟨19,2,3,[(9,.pl (.one (.v (.list false 1 (List.map (rL false 1 (rK .i64)) w.Parents))))),(10,.pl (.one (.v (.sc (.bool x10))))),(11,.pl (.one (.v (.sc (.bool x10))))),(12,.pl (.one (.v (.sc (.bool x10))))),(1,.pl (.one (.ref 2 []))),(7,.pl (.one (.v (.sc (.bool (decide ((w.Bodies.length:Int)≤300))))))),(8,.pl (.one (.addr 2 [] 0 0 0)))],[(2,.box true [.list false 1 (List.map (rL false 1 (rK .i64)) w.Parents),.list false 4 (List.map (zA false) w.Bodies)])]⟩ ?_
      refine zI hc9_1_0 ?_
      refine ops H' ?_
      refine zD ⟨rfl,.inl ⟨rfl,?_⟩⟩
      exact zF [1,12,14] [(2,2)] 3 d2'
    have d4':zK X ?o0 [0] [(1,4,.pl (.one (.v (.list false 4 (List.map (zA false) w.Bodies))))),(2,5,.pl (.one (.v (.sc (.int .i64 (w.Bodies.length:Int)))))),(3,6,.pl (.one (.v (.sc (.bool (decide ((w.Bodies.length:Int)≤300))))))),(4,7,.pl (.one (.v (.sc (.bool (decide ((w.Bodies.length:Int)≤300))))))),(6,9,.pl (.one (.v (.list false 1 (List.map (rL false 1 (rK .i64)) w.Parents))))),(7,10,.pl (.one (.v (.sc (.bool x10))))),(8,11,.pl (.one (.v (.sc (.bool x10))))),(9,12,.pl (.one (.v (.sc (.bool x10))))),(10,13,.pl (.agg [.v (.list false 1 (List.map (rL false 1 (rK .i64)) w.Parents)),.v (.list false 4 (List.map (zA false) w.Bodies))])),(12,15,.pl (.one (.v (.list false 1 (List.map (rL false 1 (rK .i64)) w.Parents))))),(14,17,.pl (.one (.v (.sc (.bool x17))))),(15,18,.pl (.one (.v (.sc (.bool x17)))))] ?P0 ⟨19,2,3,[(1,.pl (.one (.ref 2 []))),(3,.pl (.one (.addr 2 [] 0 0 1)))],[(2,.box true [.list false 1 (List.map (rL false 1 (rK .i64)) w.Parents),.list false 4 (List.map (zA false) w.Bodies)])]⟩:=by
     refine zL [1,2,3,4] [.q 1 4 (.pl (.one (.v (.list false 4 (List.map (zA false) w.Bodies))))) [],.q 2 5 (.pl (.one (.v (.sc (.int .i64 (w.Bodies.length:Int)))))) [1],.q 3 6 (.pl (.one (.v (.sc (.bool (decide ((w.Bodies.length:Int)≤300))))))) [2],.q 4 7 (.pl (.one (.v (.sc (.bool (decide ((w.Bodies.length:Int)≤300))))))) [3],.m 5 [4,3,2,1] [0,1,2,3,4,5] [(6,9,.pl (.one (.v (.list false 1 (List.map (rL false 1 (rK .i64)) w.Parents))))),(7,10,.pl (.one (.v (.sc (.bool x10))))),(8,11,.pl (.one (.v (.sc (.bool x10))))),(9,12,.pl (.one (.v (.sc (.bool x10))))),(10,13,.pl (.agg [.v (.list false 1 (List.map (rL false 1 (rK .i64)) w.Parents)),.v (.list false 4 (List.map (zA false) w.Bodies))])),(12,15,.pl (.one (.v (.list false 1 (List.map (rL false 1 (rK .i64)) w.Parents))))),(14,17,.pl (.one (.v (.sc (.bool x17))))),(15,18,.pl (.one (.v (.sc (.bool x17)))))]] [(1,4),(2,5),(3,6),(4,7),(6,9),(7,10),(8,11),(9,12),(10,13),(12,15),(14,17),(15,18)] [(1,true,[],[]),(2,true,[1],[]),(3,true,[2],[]),(4,true,[3],[]),(5,false,[4,3,2,1],[0,1,2,3,4,5])] ⟨?_,?_,?_,?_,?_,trivial⟩
     ·refine zG 0 ⟨19,2,3,[(1,.pl (.one (.ref 2 []))),(3,.pl (.one (.addr 2 [] 0 0 1)))],[(2,.box true [.list false 1 (List.map (rL false 1 (rK .i64)) w.Parents),.list false 4 (List.map (zA false) w.Bodies)])]⟩ ?_
      refine ops H' ?_
      refine zD ⟨rfl,shd [4,1,3] [(2,2)] 3 rfl⟩
     ·refine zG 1 ⟨19,2,3,[(4,.pl (.one (.v (.list false 4 (List.map (zA false) w.Bodies))))),(1,.pl (.one (.ref 2 []))),(3,.pl (.one (.addr 2 [] 0 0 1)))],[(2,.box true [.list false 1 (List.map (rL false 1 (rK .i64)) w.Parents),.list false 4 (List.map (zA false) w.Bodies)])]⟩ ?_
      refine ops H' ?_
      refine zD ⟨rfl,shd [5,1,3] [(2,2)] 3 rfl⟩
     ·refine zG 2 ⟨19,2,3,[(5,.pl (.one (.v (.sc (.int .i64 (w.Bodies.length:Int)))))),(1,.pl (.one (.ref 2 []))),(3,.pl (.one (.addr 2 [] 0 0 1)))],[(2,.box true [.list false 1 (List.map (rL false 1 (rK .i64)) w.Parents),.list false 4 (List.map (zA false) w.Bodies)])]⟩ ?_
      refine ops H' ?_
      refine zD ⟨rfl,shd [6,1,3] [(2,2)] 3 rfl⟩
     ·refine zG 3 ⟨19,2,3,[(6,.pl (.one (.v (.sc (.bool (decide ((w.Bodies.length:Int)≤300))))))),(1,.pl (.one (.ref 2 []))),(3,.pl (.one (.addr 2 [] 0 0 1)))],[(2,.box true [.list false 1 (List.map (rL false 1 (rK .i64)) w.Parents),.list false 4 (List.map (zA false) w.Bodies)])]⟩ ?_
      refine ops H' ?_
      refine zD ⟨rfl,shd [7,1,3] [(2,2)] 3 rfl⟩
     ·refine zM ⟨19,2,3,[(4,.pl (.one (.v (.list false 4 (List.map (zA false) w.Bodies))))),(5,.pl (.one (.v (.sc (.int .i64 (w.Bodies.length:Int)))))),(6,.pl (.one (.v (.sc (.bool (decide ((w.Bodies.length:Int)≤300))))))),(7,.pl (.one (.v (.sc (.bool (decide ((w.Bodies.length:Int)≤300))))))),(1,.pl (.one (.ref 2 []))),(3,.pl (.one (.addr 2 [] 0 0 1)))],[(2,.box true [.list false 1 (List.map (rL false 1 (rK .i64)) w.Parents),.list false 4 (List.map (zA false) w.Bodies)])]⟩ ?_
      refine zI hc4_1_0 ?_
      refine ops H' ?_
      refine zD ⟨rfl,.inl ⟨rfl,?_⟩⟩
      exact zF [1,7,8] [(2,2)] 3 d3'
    refine fpure H' 0 [0] [(1,4),(2,5),(3,6),(4,7),(6,9),(7,10),(8,11),(9,12),(10,13),(12,15),(14,17),(15,18)] ?_
    exact zF [1,3] [(2,2)] 3 d4'
   ·replace gh1_1_0:=(ifF hc9_1_0).symm.trans gh1_1_0
    obtain rfl:=zso gh1_1_0
    refine regAnyF [(1,4,.pl (.one (.v (.list false 4 (List.map (zA false) w.Bodies))))),(2,5,.pl (.one (.v (.sc (.int .i64 (w.Bodies.length:Int)))))),(3,6,.pl (.one (.v (.sc (.bool (decide ((w.Bodies.length:Int)≤300))))))),(4,7,.pl (.one (.v (.sc (.bool (decide ((w.Bodies.length:Int)≤300))))))),(6,9,.pl (.one (.v (.list false 1 (List.map (rL false 1 (rK .i64)) w.Parents))))),(7,10,.pl (.one (.v (.sc (.bool x10))))),(8,11,.pl (.one (.v (.sc (.bool x10))))),(9,12,.pl (.one (.v (.sc (.bool x10))))),(10,13,.tup []),(11,14,.tup []),(12,15,.tup []),(13,16,.tup []),(14,17,.tup []),(15,18,.pl (.one (.v (.sc (.bool false)))))] ?_
    refine (?_:zK X ?o1 _ _ ?P1 _)
    have d5':zK X ?o1 [0,1,2,3,4,5,6,7,8,9,10,11,12,13,14,15,16] [] ?P1 ⟨19,2,2,[(2,.pl (.one (.v (.sc (.bool false)))))],[]⟩:=by
     refine fend (e2:=⟨19,2,2,[(2,.pl (.one (.v (.sc (.bool false)))))],[]⟩) [] [] [] [] trivial ⟨rfl,shd [2] [] 2 rfl⟩
    have d6':zK X ?o1 [0,1,2,3,4,5] [(6,9,.pl (.one (.v (.list false 1 (List.map (rL false 1 (rK .i64)) w.Parents))))),(7,10,.pl (.one (.v (.sc (.bool x10))))),(8,11,.pl (.one (.v (.sc (.bool x10))))),(9,12,.pl (.one (.v (.sc (.bool x10))))),(10,13,.tup []),(11,14,.tup []),(12,15,.tup []),(13,16,.tup []),(14,17,.tup []),(15,18,.pl (.one (.v (.sc (.bool false)))))] ?P1 ⟨19,2,3,[(1,.pl (.one (.ref 2 []))),(7,.pl (.one (.v (.sc (.bool (decide ((w.Bodies.length:Int)≤300))))))),(8,.pl (.one (.addr 2 [] 0 0 0)))],[(2,.box true [.list false 1 (List.map (rL false 1 (rK .i64)) w.Parents),.list false 4 (List.map (zA false) w.Bodies)])]⟩:=by
     refine zL [6,7,8,9,10,11,12,13,14,15] [.q 6 9 (.pl (.one (.v (.list false 1 (List.map (rL false 1 (rK .i64)) w.Parents))))) [],.q 7 10 (.pl (.one (.v (.sc (.bool x10))))) [6],.q 8 11 (.pl (.one (.v (.sc (.bool x10))))) [7],.q 9 12 (.pl (.one (.v (.sc (.bool x10))))) [7,8],.q 10 13 (.tup []) [9],.q 11 14 (.tup []) [9],.q 12 15 (.tup []) [9,11],.q 13 16 (.tup []) [9,12],.q 14 17 (.tup []) [9,10,13],.q 15 18 (.pl (.one (.v (.sc (.bool false))))) [9,14],.m 16 [6,7,8,9,10,11,12,13,14,15] [0,1,2,3,4,5,6,7,8,9,10,11,12,13,14,15,16] []] [(6,9),(7,10),(8,11),(9,12),(10,13),(11,14),(12,15),(13,16),(14,17),(15,18)] [(6,true,[],[]),(7,true,[6],[]),(8,true,[7],[]),(9,true,[7,8],[]),(10,true,[9],[]),(11,true,[9],[]),(12,true,[9,11],[]),(13,true,[9,12],[]),(14,true,[9,10,13],[]),(15,true,[9,14],[]),(16,false,[6,7,8,9,10,11,12,13,14,15],[0,1,2,3,4,5,6,7,8,9,10,11,12,13,14,15,16])] ⟨?_,?_,?_,?_,?_,?_,?_,?_,?_,?_,?_,trivial⟩
     ·refine zG 0 ⟨19,2,3,[(1,.pl (.one (.ref 2 []))),(7,.pl (.one (.v (.sc (.bool (decide ((w.Bodies.length:Int)≤300))))))),(8,.pl (.one (.addr 2 [] 0 0 0)))],[(2,.box true [.list false 1 (List.map (rL false 1 (rK .i64)) w.Parents),.list false 4 (List.map (zA false) w.Bodies)])]⟩ ?_
      refine zI hc4_1_0 ?_
      refine ops H' ?_
      refine zD ⟨rfl,shd [9,1,7,8] [(2,2)] 3 rfl⟩
     ·refine zG 1 ⟨19,2,3,[(9,.pl (.one (.v (.list false 1 (List.map (rL false 1 (rK .i64)) w.Parents))))),(1,.pl (.one (.ref 2 []))),(7,.pl (.one (.v (.sc (.bool (decide ((w.Bodies.length:Int)≤300))))))),(8,.pl (.one (.addr 2 [] 0 0 0)))],[(2,.box true [.list false 1 (List.map (rL false 1 (rK .i64)) w.Parents),.list false 4 (List.map (zA false) w.Bodies)])]⟩ ?_
      refine zI hc4_1_0 ?_
      refine zO H' (fun _=>[]) (W_impl_GraphOk _ _ hy_x10) ?_
      refine zD ⟨rfl,shd [10,1,7,8] [(2,2)] 3 rfl⟩
     ·refine zG 2 ⟨19,2,3,[(10,.pl (.one (.v (.sc (.bool x10))))),(1,.pl (.one (.ref 2 []))),(7,.pl (.one (.v (.sc (.bool (decide ((w.Bodies.length:Int)≤300))))))),(8,.pl (.one (.addr 2 [] 0 0 0)))],[(2,.box true [.list false 1 (List.map (rL false 1 (rK .i64)) w.Parents),.list false 4 (List.map (zA false) w.Bodies)])]⟩ ?_
      refine opsPick H' hc4_1_0 ?_
      refine zD ⟨rfl,shd [11,1,7,8] [(2,2)] 3 rfl⟩
     ·refine zG 3 ⟨19,2,3,[(10,.pl (.one (.v (.sc (.bool x10))))),(11,.pl (.one (.v (.sc (.bool x10))))),(1,.pl (.one (.ref 2 []))),(7,.pl (.one (.v (.sc (.bool (decide ((w.Bodies.length:Int)≤300))))))),(8,.pl (.one (.addr 2 [] 0 0 0)))],[(2,.box true [.list false 1 (List.map (rL false 1 (rK .i64)) w.Parents),.list false 4 (List.map (zA false) w.Bodies)])]⟩ ?_
      refine ops H' ?_
      refine zD ⟨rfl,shd [12,1,7,8] [(2,2)] 3 rfl⟩
     ·refine zG 4 ⟨19,2,3,[(12,.pl (.one (.v (.sc (.bool x10))))),(1,.pl (.one (.ref 2 []))),(7,.pl (.one (.v (.sc (.bool (decide ((w.Bodies.length:Int)≤300))))))),(8,.pl (.one (.addr 2 [] 0 0 0)))],[(2,.box true [.list false 1 (List.map (rL false 1 (rK .i64)) w.Parents),.list false 4 (List.map (zA false) w.Bodies)])]⟩ ?_
      refine qB hc9_1_0 ?_
      refine zD ⟨rfl,shd [13,1,7,8] [(2,2)] 3 rfl⟩
     ·refine zG 5 ⟨19,2,3,[(12,.pl (.one (.v (.sc (.bool x10))))),(1,.pl (.one (.ref 2 []))),(7,.pl (.one (.v (.sc (.bool (decide ((w.Bodies.length:Int)≤300))))))),(8,.pl (.one (.addr 2 [] 0 0 0)))],[(2,.box true [.list false 1 (List.map (rL false 1 (rK .i64)) w.Parents),.list false 4 (List.map (zA false) w.Bodies)])]⟩ ?_
      refine qB hc9_1_0 ?_
      refine zD ⟨rfl,shd [14,1,7,8] [(2,2)] 3 rfl⟩
     ·refine zG 6 ⟨19,2,3,[(12,.pl (.one (.v (.sc (.bool x10))))),(14,.tup []),(1,.pl (.one (.ref 2 []))),(7,.pl (.one (.v (.sc (.bool (decide ((w.Bodies.length:Int)≤300))))))),(8,.pl (.one (.addr 2 [] 0 0 0)))],[(2,.box true [.list false 1 (List.map (rL false 1 (rK .i64)) w.Parents),.list false 4 (List.map (zA false) w.Bodies)])]⟩ ?_
      refine qB hc9_1_0 ?_
      refine zD ⟨rfl,shd [15,1,7,8] [(2,2)] 3 rfl⟩
     ·refine zG 7 ⟨19,2,3,[(12,.pl (.one (.v (.sc (.bool x10))))),(15,.tup []),(1,.pl (.one (.ref 2 []))),(7,.pl (.one (.v (.sc (.bool (decide ((w.Bodies.length:Int)≤300))))))),(8,.pl (.one (.addr 2 [] 0 0 0)))],[(2,.box true [.list false 1 (List.map (rL false 1 (rK .i64)) w.Parents),.list false 4 (List.map (zA false) w.Bodies)])]⟩ ?_
      refine qB hc9_1_0 ?_
      refine zD ⟨rfl,shd [16,1,7,8] [(2,2)] 3 rfl⟩
     ·refine zG 8 ⟨19,2,3,[(12,.pl (.one (.v (.sc (.bool x10))))),(13,.tup []),(16,.tup []),(1,.pl (.one (.ref 2 []))),(7,.pl (.one (.v (.sc (.bool (decide ((w.Bodies.length:Int)≤300))))))),(8,.pl (.one (.addr 2 [] 0 0 0)))],[(2,.box true [.list false 1 (List.map (rL false 1 (rK .i64)) w.Parents),.list false 4 (List.map (zA false) w.Bodies)])]⟩ ?_
      refine qB hc9_1_0 ?_
      refine zD ⟨rfl,shd [17,1,7,8] [(2,2)] 3 rfl⟩
     ·refine zG 9 ⟨19,2,3,[(12,.pl (.one (.v (.sc (.bool x10))))),(17,.tup []),(1,.pl (.one (.ref 2 []))),(7,.pl (.one (.v (.sc (.bool (decide ((w.Bodies.length:Int)≤300))))))),(8,.pl (.one (.addr 2 [] 0 0 0)))],[(2,.box true [.list false 1 (List.map (rL false 1 (rK .i64)) w.Parents),.list false 4 (List.map (zA false) w.Bodies)])]⟩ ?_
      refine opsPick H' hc9_1_0 ?_
      refine zD ⟨rfl,shd [18,1,7,8] [(2,2)] 3 rfl⟩
     ·refine zM ⟨19,2,3,[(9,.pl (.one (.v (.list false 1 (List.map (rL false 1 (rK .i64)) w.Parents))))),(10,.pl (.one (.v (.sc (.bool x10))))),(11,.pl (.one (.v (.sc (.bool x10))))),(12,.pl (.one (.v (.sc (.bool x10))))),(13,.tup []),(14,.tup []),(15,.tup []),(16,.tup []),(17,.tup []),(18,.pl (.one (.v (.sc (.bool false))))),(1,.pl (.one (.ref 2 []))),(7,.pl (.one (.v (.sc (.bool (decide ((w.Bodies.length:Int)≤300))))))),(8,.pl (.one (.addr 2 [] 0 0 0)))],[(2,.box true [.list false 1 (List.map (rL false 1 (rK .i64)) w.Parents),.list false 4 (List.map (zA false) w.Bodies)])]⟩ ?_
      refine ops H' ?_
      refine zD ⟨rfl,.inl ⟨rfl,?_⟩⟩
      exact zF [2] [] 2 d5'
    have d7':zK X ?o1 [0] [(1,4,.pl (.one (.v (.list false 4 (List.map (zA false) w.Bodies))))),(2,5,.pl (.one (.v (.sc (.int .i64 (w.Bodies.length:Int)))))),(3,6,.pl (.one (.v (.sc (.bool (decide ((w.Bodies.length:Int)≤300))))))),(4,7,.pl (.one (.v (.sc (.bool (decide ((w.Bodies.length:Int)≤300))))))),(6,9,.pl (.one (.v (.list false 1 (List.map (rL false 1 (rK .i64)) w.Parents))))),(7,10,.pl (.one (.v (.sc (.bool x10))))),(8,11,.pl (.one (.v (.sc (.bool x10))))),(9,12,.pl (.one (.v (.sc (.bool x10))))),(10,13,.tup []),(11,14,.tup []),(12,15,.tup []),(13,16,.tup []),(14,17,.tup []),(15,18,.pl (.one (.v (.sc (.bool false)))))] ?P1 ⟨19,2,3,[(1,.pl (.one (.ref 2 []))),(3,.pl (.one (.addr 2 [] 0 0 1)))],[(2,.box true [.list false 1 (List.map (rL false 1 (rK .i64)) w.Parents),.list false 4 (List.map (zA false) w.Bodies)])]⟩:=by
     refine zL [1,2,3,4] [.q 1 4 (.pl (.one (.v (.list false 4 (List.map (zA false) w.Bodies))))) [],.q 2 5 (.pl (.one (.v (.sc (.int .i64 (w.Bodies.length:Int)))))) [1],.q 3 6 (.pl (.one (.v (.sc (.bool (decide ((w.Bodies.length:Int)≤300))))))) [2],.q 4 7 (.pl (.one (.v (.sc (.bool (decide ((w.Bodies.length:Int)≤300))))))) [3],.m 5 [4,3,2,1] [0,1,2,3,4,5] [(6,9,.pl (.one (.v (.list false 1 (List.map (rL false 1 (rK .i64)) w.Parents))))),(7,10,.pl (.one (.v (.sc (.bool x10))))),(8,11,.pl (.one (.v (.sc (.bool x10))))),(9,12,.pl (.one (.v (.sc (.bool x10))))),(10,13,.tup []),(11,14,.tup []),(12,15,.tup []),(13,16,.tup []),(14,17,.tup []),(15,18,.pl (.one (.v (.sc (.bool false)))))]] [(1,4),(2,5),(3,6),(4,7),(6,9),(7,10),(8,11),(9,12),(10,13),(11,14),(12,15),(13,16),(14,17),(15,18)] [(1,true,[],[]),(2,true,[1],[]),(3,true,[2],[]),(4,true,[3],[]),(5,false,[4,3,2,1],[0,1,2,3,4,5])] ⟨?_,?_,?_,?_,?_,trivial⟩
     ·refine zG 0 ⟨19,2,3,[(1,.pl (.one (.ref 2 []))),(3,.pl (.one (.addr 2 [] 0 0 1)))],[(2,.box true [.list false 1 (List.map (rL false 1 (rK .i64)) w.Parents),.list false 4 (List.map (zA false) w.Bodies)])]⟩ ?_
      refine ops H' ?_
      refine zD ⟨rfl,shd [4,1,3] [(2,2)] 3 rfl⟩
     ·refine zG 1 ⟨19,2,3,[(4,.pl (.one (.v (.list false 4 (List.map (zA false) w.Bodies))))),(1,.pl (.one (.ref 2 []))),(3,.pl (.one (.addr 2 [] 0 0 1)))],[(2,.box true [.list false 1 (List.map (rL false 1 (rK .i64)) w.Parents),.list false 4 (List.map (zA false) w.Bodies)])]⟩ ?_
      refine ops H' ?_
      refine zD ⟨rfl,shd [5,1,3] [(2,2)] 3 rfl⟩
     ·refine zG 2 ⟨19,2,3,[(5,.pl (.one (.v (.sc (.int .i64 (w.Bodies.length:Int)))))),(1,.pl (.one (.ref 2 []))),(3,.pl (.one (.addr 2 [] 0 0 1)))],[(2,.box true [.list false 1 (List.map (rL false 1 (rK .i64)) w.Parents),.list false 4 (List.map (zA false) w.Bodies)])]⟩ ?_
      refine ops H' ?_
      refine zD ⟨rfl,shd [6,1,3] [(2,2)] 3 rfl⟩
     ·refine zG 3 ⟨19,2,3,[(6,.pl (.one (.v (.sc (.bool (decide ((w.Bodies.length:Int)≤300))))))),(1,.pl (.one (.ref 2 []))),(3,.pl (.one (.addr 2 [] 0 0 1)))],[(2,.box true [.list false 1 (List.map (rL false 1 (rK .i64)) w.Parents),.list false 4 (List.map (zA false) w.Bodies)])]⟩ ?_
      refine ops H' ?_
      refine zD ⟨rfl,shd [7,1,3] [(2,2)] 3 rfl⟩
     ·refine zM ⟨19,2,3,[(4,.pl (.one (.v (.list false 4 (List.map (zA false) w.Bodies))))),(5,.pl (.one (.v (.sc (.int .i64 (w.Bodies.length:Int)))))),(6,.pl (.one (.v (.sc (.bool (decide ((w.Bodies.length:Int)≤300))))))),(7,.pl (.one (.v (.sc (.bool (decide ((w.Bodies.length:Int)≤300))))))),(1,.pl (.one (.ref 2 []))),(3,.pl (.one (.addr 2 [] 0 0 1)))],[(2,.box true [.list false 1 (List.map (rL false 1 (rK .i64)) w.Parents),.list false 4 (List.map (zA false) w.Bodies)])]⟩ ?_
      refine zI hc4_1_0 ?_
      refine ops H' ?_
      refine zD ⟨rfl,.inl ⟨rfl,?_⟩⟩
      exact zF [1,7,8] [(2,2)] 3 d6'
    refine fpure H' 0 [0] [(1,4),(2,5),(3,6),(4,7),(6,9),(7,10),(8,11),(9,12),(10,13),(11,14),(12,15),(13,16),(14,17),(15,18)] ?_
    exact zF [1,3] [(2,2)] 3 d7'
  ·replace gh0_1_0:=(ifF hc4_1_0).symm.trans gh0_1_0
   obtain rfl:=zso gh0_1_0
   have hc9_1_0:false=false:=rfl
   replace gh1_1_0:=(ifF hc9_1_0).symm.trans gh1_1_0
   obtain rfl:=zso gh1_1_0
   refine regAnyF [(1,4,.pl (.one (.v (.list false 4 (List.map (zA false) w.Bodies))))),(2,5,.pl (.one (.v (.sc (.int .i64 (w.Bodies.length:Int)))))),(3,6,.pl (.one (.v (.sc (.bool (decide ((w.Bodies.length:Int)≤300))))))),(4,7,.pl (.one (.v (.sc (.bool (decide ((w.Bodies.length:Int)≤300))))))),(5,8,.tup []),(6,9,.tup []),(7,10,.tup []),(8,11,.pl (.one (.v (.sc (.bool false))))),(9,12,.pl (.one (.v (.sc (.bool false))))),(10,13,.tup []),(11,14,.tup []),(12,15,.tup []),(13,16,.tup []),(14,17,.tup []),(15,18,.pl (.one (.v (.sc (.bool false)))))] ?_
   refine (?_:zK X ?o2 _ _ ?P2 _)
   have d8':zK X ?o2 [0,1,2,3,4,5,6,7,8,9,10,11,12,13,14,15,16] [] ?P2 ⟨19,2,2,[(2,.pl (.one (.v (.sc (.bool false)))))],[]⟩:=by
    refine fend (e2:=⟨19,2,2,[(2,.pl (.one (.v (.sc (.bool false)))))],[]⟩) [] [] [] [] trivial ⟨rfl,shd [2] [] 2 rfl⟩
   have d9':zK X ?o2 [0] [(1,4,.pl (.one (.v (.list false 4 (List.map (zA false) w.Bodies))))),(2,5,.pl (.one (.v (.sc (.int .i64 (w.Bodies.length:Int)))))),(3,6,.pl (.one (.v (.sc (.bool (decide ((w.Bodies.length:Int)≤300))))))),(4,7,.pl (.one (.v (.sc (.bool (decide ((w.Bodies.length:Int)≤300))))))),(5,8,.tup []),(6,9,.tup []),(7,10,.tup []),(8,11,.pl (.one (.v (.sc (.bool false))))),(9,12,.pl (.one (.v (.sc (.bool false))))),(10,13,.tup []),(11,14,.tup []),(12,15,.tup []),(13,16,.tup []),(14,17,.tup []),(15,18,.pl (.one (.v (.sc (.bool false)))))] ?P2 ⟨19,2,3,[(1,.pl (.one (.ref 2 []))),(3,.pl (.one (.addr 2 [] 0 0 1)))],[(2,.box true [.list false 1 (List.map (rL false 1 (rK .i64)) w.Parents),.list false 4 (List.map (zA false) w.Bodies)])]⟩:=by
    refine zL [1,2,3,4,5,6,7,8,9,10,11,12,13,14,15] [.q 1 4 (.pl (.one (.v (.list false 4 (List.map (zA false) w.Bodies))))) [],.q 2 5 (.pl (.one (.v (.sc (.int .i64 (w.Bodies.length:Int)))))) [1],.q 3 6 (.pl (.one (.v (.sc (.bool (decide ((w.Bodies.length:Int)≤300))))))) [2],.q 4 7 (.pl (.one (.v (.sc (.bool (decide ((w.Bodies.length:Int)≤300))))))) [3],.q 5 8 (.tup []) [4],.q 6 9 (.tup []) [4,5],.q 7 10 (.tup []) [4,6],.q 8 11 (.pl (.one (.v (.sc (.bool false))))) [4,7],.q 9 12 (.pl (.one (.v (.sc (.bool false))))) [7,8],.q 10 13 (.tup []) [9],.q 11 14 (.tup []) [9],.q 12 15 (.tup []) [9,11],.q 13 16 (.tup []) [9,12],.q 14 17 (.tup []) [9,10,13],.q 15 18 (.pl (.one (.v (.sc (.bool false))))) [9,14],.m 16 [1,2,3,4,5,6,7,8,9,10,11,12,13,14,15] [0,1,2,3,4,5,6,7,8,9,10,11,12,13,14,15,16] []] [(1,4),(2,5),(3,6),(4,7),(5,8),(6,9),(7,10),(8,11),(9,12),(10,13),(11,14),(12,15),(13,16),(14,17),(15,18)] [(1,true,[],[]),(2,true,[1],[]),(3,true,[2],[]),(4,true,[3],[]),(5,true,[4],[]),(6,true,[4,5],[]),(7,true,[4,6],[]),(8,true,[4,7],[]),(9,true,[7,8],[]),(10,true,[9],[]),(11,true,[9],[]),(12,true,[9,11],[]),(13,true,[9,12],[]),(14,true,[9,10,13],[]),(15,true,[9,14],[]),(16,false,[1,2,3,4,5,6,7,8,9,10,11,12,13,14,15],[0,1,2,3,4,5,6,7,8,9,10,11,12,13,14,15,16])] ⟨?_,?_,?_,?_,?_,?_,?_,?_,?_,?_,?_,?_,?_,?_,?_,?_,trivial⟩
    ·refine zG 0 ⟨19,2,3,[(1,.pl (.one (.ref 2 []))),(3,.pl (.one (.addr 2 [] 0 0 1)))],[(2,.box true [.list false 1 (List.map (rL false 1 (rK .i64)) w.Parents),.list false 4 (List.map (zA false) w.Bodies)])]⟩ ?_
     refine ops H' ?_
     refine zD ⟨rfl,shd [4,1,3] [(2,2)] 3 rfl⟩
    ·refine zG 1 ⟨19,2,3,[(4,.pl (.one (.v (.list false 4 (List.map (zA false) w.Bodies))))),(1,.pl (.one (.ref 2 []))),(3,.pl (.one (.addr 2 [] 0 0 1)))],[(2,.box true [.list false 1 (List.map (rL false 1 (rK .i64)) w.Parents),.list false 4 (List.map (zA false) w.Bodies)])]⟩ ?_
     refine ops H' ?_
     refine zD ⟨rfl,shd [5,1,3] [(2,2)] 3 rfl⟩
    ·refine zG 2 ⟨19,2,3,[(5,.pl (.one (.v (.sc (.int .i64 (w.Bodies.length:Int)))))),(1,.pl (.one (.ref 2 []))),(3,.pl (.one (.addr 2 [] 0 0 1)))],[(2,.box true [.list false 1 (List.map (rL false 1 (rK .i64)) w.Parents),.list false 4 (List.map (zA false) w.Bodies)])]⟩ ?_
     refine ops H' ?_
     refine zD ⟨rfl,shd [6,1,3] [(2,2)] 3 rfl⟩
    ·refine zG 3 ⟨19,2,3,[(6,.pl (.one (.v (.sc (.bool (decide ((w.Bodies.length:Int)≤300))))))),(1,.pl (.one (.ref 2 []))),(3,.pl (.one (.addr 2 [] 0 0 1)))],[(2,.box true [.list false 1 (List.map (rL false 1 (rK .i64)) w.Parents),.list false 4 (List.map (zA false) w.Bodies)])]⟩ ?_
     refine ops H' ?_
     refine zD ⟨rfl,shd [7,1,3] [(2,2)] 3 rfl⟩
    ·refine zG 4 ⟨19,2,3,[(7,.pl (.one (.v (.sc (.bool (decide ((w.Bodies.length:Int)≤300))))))),(1,.pl (.one (.ref 2 []))),(3,.pl (.one (.addr 2 [] 0 0 1)))],[(2,.box true [.list false 1 (List.map (rL false 1 (rK .i64)) w.Parents),.list false 4 (List.map (zA false) w.Bodies)])]⟩ ?_
     refine qB hc4_1_0 ?_
     refine zD ⟨rfl,shd [8,1,3] [(2,2)] 3 rfl⟩
    ·refine zG 5 ⟨19,2,3,[(7,.pl (.one (.v (.sc (.bool (decide ((w.Bodies.length:Int)≤300))))))),(8,.tup []),(1,.pl (.one (.ref 2 []))),(3,.pl (.one (.addr 2 [] 0 0 1)))],[(2,.box true [.list false 1 (List.map (rL false 1 (rK .i64)) w.Parents),.list false 4 (List.map (zA false) w.Bodies)])]⟩ ?_
     refine qB hc4_1_0 ?_
     refine zD ⟨rfl,shd [9,1,3] [(2,2)] 3 rfl⟩
    ·refine zG 6 ⟨19,2,3,[(7,.pl (.one (.v (.sc (.bool (decide ((w.Bodies.length:Int)≤300))))))),(9,.tup []),(1,.pl (.one (.ref 2 []))),(3,.pl (.one (.addr 2 [] 0 0 1)))],[(2,.box true [.list false 1 (List.map (rL false 1 (rK .i64)) w.Parents),.list false 4 (List.map (zA false) w.Bodies)])]⟩ ?_
     refine qB hc4_1_0 ?_
     refine zD ⟨rfl,shd [10,1,3] [(2,2)] 3 rfl⟩
    ·refine zG 7 ⟨19,2,3,[(7,.pl (.one (.v (.sc (.bool (decide ((w.Bodies.length:Int)≤300))))))),(10,.tup []),(1,.pl (.one (.ref 2 []))),(3,.pl (.one (.addr 2 [] 0 0 1)))],[(2,.box true [.list false 1 (List.map (rL false 1 (rK .i64)) w.Parents),.list false 4 (List.map (zA false) w.Bodies)])]⟩ ?_
     refine opsPick H' hc4_1_0 ?_
     refine zD ⟨rfl,shd [11,1,3] [(2,2)] 3 rfl⟩
    ·refine zG 8 ⟨19,2,3,[(10,.tup []),(11,.pl (.one (.v (.sc (.bool false))))),(1,.pl (.one (.ref 2 []))),(3,.pl (.one (.addr 2 [] 0 0 1)))],[(2,.box true [.list false 1 (List.map (rL false 1 (rK .i64)) w.Parents),.list false 4 (List.map (zA false) w.Bodies)])]⟩ ?_
     refine ops H' ?_
     refine zD ⟨rfl,shd [12,1,3] [(2,2)] 3 rfl⟩
    ·refine zG 9 ⟨19,2,3,[(12,.pl (.one (.v (.sc (.bool false))))),(1,.pl (.one (.ref 2 []))),(3,.pl (.one (.addr 2 [] 0 0 1)))],[(2,.box true [.list false 1 (List.map (rL false 1 (rK .i64)) w.Parents),.list false 4 (List.map (zA false) w.Bodies)])]⟩ ?_
     refine qB hc9_1_0 ?_
     refine zD ⟨rfl,shd [13,1,3] [(2,2)] 3 rfl⟩
    ·refine zG 10 ⟨19,2,3,[(12,.pl (.one (.v (.sc (.bool false))))),(1,.pl (.one (.ref 2 []))),(3,.pl (.one (.addr 2 [] 0 0 1)))],[(2,.box true [.list false 1 (List.map (rL false 1 (rK .i64)) w.Parents),.list false 4 (List.map (zA false) w.Bodies)])]⟩ ?_
     refine qB hc9_1_0 ?_
     refine zD ⟨rfl,shd [14,1,3] [(2,2)] 3 rfl⟩
    ·refine zG 11 ⟨19,2,3,[(12,.pl (.one (.v (.sc (.bool false))))),(14,.tup []),(1,.pl (.one (.ref 2 []))),(3,.pl (.one (.addr 2 [] 0 0 1)))],[(2,.box true [.list false 1 (List.map (rL false 1 (rK .i64)) w.Parents),.list false 4 (List.map (zA false) w.Bodies)])]⟩ ?_
     refine qB hc9_1_0 ?_
     refine zD ⟨rfl,shd [15,1,3] [(2,2)] 3 rfl⟩
    ·refine zG 12 ⟨19,2,3,[(12,.pl (.one (.v (.sc (.bool false))))),(15,.tup []),(1,.pl (.one (.ref 2 []))),(3,.pl (.one (.addr 2 [] 0 0 1)))],[(2,.box true [.list false 1 (List.map (rL false 1 (rK .i64)) w.Parents),.list false 4 (List.map (zA false) w.Bodies)])]⟩ ?_
     refine qB hc9_1_0 ?_
     refine zD ⟨rfl,shd [16,1,3] [(2,2)] 3 rfl⟩
    ·refine zG 13 ⟨19,2,3,[(12,.pl (.one (.v (.sc (.bool false))))),(13,.tup []),(16,.tup []),(1,.pl (.one (.ref 2 []))),(3,.pl (.one (.addr 2 [] 0 0 1)))],[(2,.box true [.list false 1 (List.map (rL false 1 (rK .i64)) w.Parents),.list false 4 (List.map (zA false) w.Bodies)])]⟩ ?_
     refine qB hc9_1_0 ?_
     refine zD ⟨rfl,shd [17,1,3] [(2,2)] 3 rfl⟩
    ·refine zG 14 ⟨19,2,3,[(12,.pl (.one (.v (.sc (.bool false))))),(17,.tup []),(1,.pl (.one (.ref 2 []))),(3,.pl (.one (.addr 2 [] 0 0 1)))],[(2,.box true [.list false 1 (List.map (rL false 1 (rK .i64)) w.Parents),.list false 4 (List.map (zA false) w.Bodies)])]⟩ ?_
     refine opsPick H' hc9_1_0 ?_
     refine zD ⟨rfl,shd [18,1,3] [(2,2)] 3 rfl⟩
    ·refine zM ⟨19,2,3,[(4,.pl (.one (.v (.list false 4 (List.map (zA false) w.Bodies))))),(5,.pl (.one (.v (.sc (.int .i64 (w.Bodies.length:Int)))))),(6,.pl (.one (.v (.sc (.bool (decide ((w.Bodies.length:Int)≤300))))))),(7,.pl (.one (.v (.sc (.bool (decide ((w.Bodies.length:Int)≤300))))))),(8,.tup []),(9,.tup []),(10,.tup []),(11,.pl (.one (.v (.sc (.bool false))))),(12,.pl (.one (.v (.sc (.bool false))))),(13,.tup []),(14,.tup []),(15,.tup []),(16,.tup []),(17,.tup []),(18,.pl (.one (.v (.sc (.bool false))))),(1,.pl (.one (.ref 2 []))),(3,.pl (.one (.addr 2 [] 0 0 1)))],[(2,.box true [.list false 1 (List.map (rL false 1 (rK .i64)) w.Parents),.list false 4 (List.map (zA false) w.Bodies)])]⟩ ?_
     refine ops H' ?_
     refine zD ⟨rfl,.inl ⟨rfl,?_⟩⟩
     exact zF [2] [] 2 d8'
   refine fpure H' 0 [0] [(1,4),(2,5),(3,6),(4,7),(5,8),(6,9),(7,10),(8,11),(9,12),(10,13),(11,14),(12,15),(13,16),(14,17),(15,18)] ?_
   exact zF [1,3] [(2,2)] 3 d9'
 ·rintro e' rfl
  refine contN ?_
  refine retN ?_
  obtain rfl:=zso h0'
  exact outG H' rfl rfl
theorem W_impl_placesOf__1 (w:T_impl_Weave) (want:T_impl_Body→Option Bool) (want_f:Nat) (want_c0:V) (want_h:∀ (z0':T_impl_Body) r',want z0'=some r'→Fn X want_f [.agg [.sc (.string z0'.Line),.sc (.int .i64 z0'.Ins),.sc (.int .i64 z0'.Ord),.list false 1 (List.map (rK .i64) z0'.Dels)],.one (want_c0)] [.one (.sc (.bool r'))] []) (r':(List Int)) (h0':impl_placesOf w want=some r'):Fn X 87 [.agg [.list false 1 (List.map (rL false 1 (rK .i64)) w.Parents),.list false 4 (List.map (zA false) w.Bodies)],.one (.fn want_f [want_c0])] [.one (.list true 1 (List.map (rK .i64) r'))] []:=by
 have H':=And.intro t3 (And.intro t39 (And.intro t41 (And.intro t44 (And.intro t50 (And.intro R_Li64 (And.intro qD (R_i64)))))))
 unfold impl_placesOf at h0'
 refine Fn.start (fn:=f87) (N:=28) (res:=[.tmp 4]) rfl rfl rfl rfl rfl (by simp) ?_
 refine zW H' ?_
 refine zC ?_
 refine zB ?_
 refine ops H' ?_
 refine zE ?_
 refine zC ?_
 refine zC ?_
 refine zB ?_
 refine ops H' ?_
 obtain ⟨x9,hy',h0'⟩:=zbi h0'
 refine zO H' (fun _=>[]) (W_impl_WeaveOk _ _ hy') ?_
 refine ops H' ?_
 refine zE ?_
 refine zH (fun hc'=>?_) (fun hc'=>?_)
 ·replace h0':=(ifT hc').symm.trans h0'
  refine zC ?_
  refine zB ?_
  refine ops H' ?_
  refine zE ?_
  refine retN ?_
  obtain rfl:=zso h0'
  exact outG H' rfl rfl
 ·replace h0':=(ifF hc').symm.trans h0'
  refine zR ?_
  refine zC ?_
  refine zB ?_
  refine ops H' ?_
  refine zE ?_
  refine zU (fun e'=>∃ out_,impl_placesOf_j1 out_=some r'∧e'=⟨28,3,4,[(5,.pl (.one (.ref 3 [])))],[(3,.list true 1 (List.map (rK .i64) out_))]⟩) ?_ ?_
  ·refine zC ?_
   refine zB ?_
   refine ops H' ?_
   refine zE ?_
   obtain ⟨p,hl',h0'⟩:=zbi h0'
   refine zJ ?_
   refine zX (fun s' e'=>∃ x14 out__1,s'=(x14,out__1)∧e'=⟨28,3,4,[(1,.pl (.one (.v (.fn want_f [want_c0])))),(5,.pl (.one (.ref 3 []))),(12,.pl (.one (.v (.list false 4 (List.map (zA false) w.Bodies))))),(13,.pl (.one (.v (.sc (.int .i64 (w.Bodies.length:Int)))))),(14,.pl (.one (.v (.sc (.int .i64 x14)))))],[(3,.list true 1 (List.map (rK .i64) out__1))]⟩) hl' (shd [1,5,12,13,14] [(6,3)] 4 ⟨_,_,rfl,rfl⟩) ?_
   rintro s' y1' e' h1' ⟨x14,out__1,rfl,rfl⟩
   replace h1':impl_placesOf_l1 w want x14 out__1=some y1':=h1'
   unfold impl_placesOf_l1 at h1'
   refine zC ?_
   refine zB ?_
   refine ops H' ?_
   refine zE ?_
   refine zC ?_
   refine zH (fun hc'=>?_) (fun hc'=>?_)
   ·replace h1':=(ifT hc').symm.trans h1'
    refine zR ?_
    refine zC ?_
    refine zJ ?_
    refine zC ?_
    refine zB ?_
    obtain ⟨x,hv',h1'⟩:=zbi h1'
    have H':=And.intro (zP hv') H'
    refine ops H' ?_
    refine zE ?_
    refine zC ?_
    refine zB ?_
    refine ops H' ?_
    obtain ⟨x21,hy',h1'⟩:=zbi h1'
    refine zO H' (fun _=>[]) (want_h _ _ hy') ?_
    refine zE ?_
    refine zH (fun hc'=>?_) (fun hc'=>?_)
    ·replace h1':=(ifT hc').symm.trans h1'
     refine zB ?_
     obtain ⟨l,hv',h1'⟩:=zbi h1'
     have H':=And.intro (app1_f hv') H'
     refine ops H' ?_
     refine zE ?_
     refine zB ?_
     refine ops H' ?_
     refine zE ?_
     obtain rfl:=zso h1'
     exact shd [1,5,12,13,14] [(3,3)] 4 ⟨_,rfl,_,_,rfl,rfl⟩
    ·replace h1':=(ifF hc').symm.trans h1'
     refine zR ?_
     refine zB ?_
     refine ops H' ?_
     refine zE ?_
     obtain rfl:=zso h1'
     exact shd [1,5,12,13,14] [(3,3)] 4 ⟨_,rfl,_,_,rfl,rfl⟩
   ·replace h1':=(ifF hc').symm.trans h1'
    refine exitN ?_
    obtain rfl:=zso h1'
    refine ⟨_,rfl,fun hr'=>?_⟩
    subst hr'
    exact shd [5] [(3,3)] 4 ⟨_,h0',rfl⟩
  ·rintro e' ⟨out_,h0',rfl⟩
   unfold impl_placesOf_j1 at h0'
   refine zC ?_
   refine zB ?_
   refine ops H' ?_
   refine zE ?_
   refine retN ?_
   obtain rfl:=zso h0'
   exact outG H' rfl rfl
theorem W_impl_BornIn (w:T_impl_Weave) (v:Int) (r':(List Int)) (h0':impl_BornIn w v=some r'):Fn X 24 [.agg [.list false 1 (List.map (rL false 1 (rK .i64)) w.Parents),.list false 4 (List.map (zA false) w.Bodies)],.one (.sc (.int .i64 v))] [.one (.list true 1 (List.map (rK .i64) r'))] []:=by
 have H':=And.intro t41 (And.intro R_Li64 (And.intro qD (R_i64)))
 unfold impl_BornIn at h0'
 refine Fn.start (fn:=f24) (N:=8) (res:=[.tmp 4]) rfl rfl rfl rfl rfl (by simp) ?_
 refine zW H' ?_
 refine zC ?_
 refine zB ?_
 refine ops H' ?_
 refine zE ?_
 refine zC ?_
 refine zB ?_
 refine ops H' ?_
 refine opsV_frz H' 4 ?_
 refine opsV_mkF H' ?_
 obtain ⟨x7,hy',h0'⟩:=zbi h0'
 refine zO H' (fun _=>[]) (W_impl_placesOf__1 _ (fun z0'=>impl_BornIn_c1 z0' v) _ _ (fun z0' r' h'=>W_impl_BornIn_c1 z0' _ r' h') _ hy') ?_
 refine ops H' ?_
 refine zE ?_
 refine retN ?_
 obtain rfl:=zso h0'
 exact outG H' rfl rfl
theorem W_slices_Index_int_int (s:List Int) (v:Int) (r':Int) (h0':slices_Index_int_int s v=some r'):Fn X 194 [.one (.list false 1 (List.map (rK .i64) s)),.one (.sc (.int .i64 v))] [.one (.sc (.int .i64 r'))] []:=by
 have H':=And.intro t3 (And.intro t44 (R_i64))
 unfold slices_Index_int_int at h0'
 refine Fn.start (fn:=f194) (N:=19) (res:=[.tmp 4]) rfl rfl rfl rfl rfl (by simp) ?_
 refine zW H' ?_
 refine zC ?_
 refine zB ?_
 refine ops H' ?_
 refine zE ?_
 refine zU (fun e'=>slices_Index_int_int_j1=some r'∧e'=⟨19,2,2,[],[]⟩) ?_ ?_
 ·refine zC ?_
  refine zB ?_
  refine ops H' ?_
  refine zE ?_
  obtain ⟨p,hl',h0'⟩:=zbi h0'
  refine zJ ?_
  refine zX (fun x8 e'=>e'=⟨19,2,2,[(0,.pl (.one (.v (.list false 1 (List.map (rK .i64) s))))),(1,.pl (.one (.v (.sc (.int .i64 v))))),(7,.pl (.one (.v (.sc (.int .i64 (s.length:Int)))))),(8,.pl (.one (.v (.sc (.int .i64 x8)))))],[]⟩) hl' (shd [0,1,7,8] [] 2 rfl) ?_
  rintro x8 y1' e' h1' rfl
  replace h1':qK s v x8=some y1':=h1'
  unfold qK at h1'
  refine zC ?_
  refine zB ?_
  refine ops H' ?_
  refine zE ?_
  refine zC ?_
  refine zH (fun hc'=>?_) (fun hc'=>?_)
  ·replace h1':=(ifT hc').symm.trans h1'
   refine zR ?_
   refine zC ?_
   refine zJ ?_
   refine zC ?_
   refine zB ?_
   refine ops H' ?_
   refine zE ?_
   refine zC ?_
   refine zB ?_
   obtain ⟨x,hv',h1'⟩:=zbi h1'
   have H':=And.intro (zP hv') H'
   refine ops H' ?_
   refine zE ?_
   refine zH (fun hc'=>?_) (fun hc'=>?_)
   ·replace h1':=(ifT hc').symm.trans h1'
    refine zC ?_
    refine zB ?_
    refine ops H' ?_
    refine zE ?_
    refine retN ?_
    obtain rfl:=zso h1'
    refine ⟨_,rfl,fun hr'=>?_⟩
    subst hr'
    obtain rfl:=zso h0'
    exact outG H' rfl rfl
   ·replace h1':=(ifF hc').symm.trans h1'
    refine zR ?_
    refine zB ?_
    refine ops H' ?_
    refine zE ?_
    obtain rfl:=zso h1'
    exact shd [0,1,7,8] [] 2 ⟨_,rfl,rfl⟩
  ·replace h1':=(ifF hc').symm.trans h1'
   refine exitN ?_
   obtain rfl:=zso h1'
   refine ⟨_,rfl,fun hr'=>?_⟩
   subst hr'
   exact shd [] [] 2 ⟨h0',rfl⟩
 ·rintro e' ⟨h0',rfl⟩
  unfold slices_Index_int_int_j1 at h0'
  refine zC ?_
  refine zB ?_
  refine ops H' ?_
  refine zE ?_
  refine retN ?_
  obtain rfl:=zso h0'
  exact outG H' rfl rfl
theorem W_slices_Contains_int_int (s:List Int) (v:Int) (r':Bool) (h0':slices_Contains_int_int s v=some r'):Fn X 166 [.one (.list false 1 (List.map (rK .i64) s)),.one (.sc (.int .i64 v))] [.one (.sc (.bool r'))] []:=by
 have H':=And.intro t3 (R_i64)
 unfold slices_Contains_int_int at h0'
 refine Fn.start (fn:=f166) (N:=9) (res:=[.tmp 4]) rfl rfl rfl rfl rfl (by simp) ?_
 refine zW H' ?_
 refine zC ?_
 refine zB ?_
 refine ops H' ?_
 refine zE ?_
 refine zC ?_
 refine zB ?_
 refine ops H' ?_
 obtain ⟨x7,hy',h0'⟩:=zbi h0'
 refine zO H' (fun _=>[]) (W_slices_Index_int_int _ _ _ hy') ?_
 refine ops H' ?_
 refine zE ?_
 refine retN ?_
 obtain rfl:=zso h0'
 exact outG H' rfl rfl
theorem W_impl_Body_hasDel (b:T_impl_Body) (v:Int) (r':Bool) (h0':impl_Body_hasDel b v=some r'):Fn X 90 [.agg [.sc (.string b.Line),.sc (.int .i64 b.Ins),.sc (.int .i64 b.Ord),.list false 1 (List.map (rK .i64) b.Dels)],.one (.sc (.int .i64 v))] [.one (.sc (.bool r'))] []:=by
 have H':=And.intro t44 (And.intro t50 (R_i64))
 unfold impl_Body_hasDel at h0'
 refine Fn.start (fn:=f90) (N:=9) (res:=[.tmp 4]) rfl rfl rfl rfl rfl (by simp) ?_
 refine zW H' ?_
 refine zC ?_
 refine zB ?_
 refine ops H' ?_
 refine zE ?_
 refine zC ?_
 refine zB ?_
 refine ops H' ?_
 obtain ⟨x8,hy',h0'⟩:=zbi h0'
 refine zO H' (fun _=>[]) (W_slices_Contains_int_int _ _ _ hy') ?_
 refine ops H' ?_
 refine zE ?_
 refine retN ?_
 obtain rfl:=zso h0'
 exact outG H' rfl rfl
theorem W_impl_KilledIn_c1 (b:T_impl_Body) (c:Int) (r':Bool) (h0':impl_KilledIn_c1 b c=some r'):Fn X 89 [.agg [.sc (.string b.Line),.sc (.int .i64 b.Ins),.sc (.int .i64 b.Ord),.list false 1 (List.map (rK .i64) b.Dels)],.one (.box false [.sc (.int .i64 c)])] [.one (.sc (.bool r'))] []:=by
 have H':=And.intro t3 (And.intro t50 (R_i64))
 unfold impl_KilledIn_c1 at h0'
 refine Fn.start (fn:=f89) (N:=7) (res:=[.tmp 3]) rfl rfl rfl rfl rfl (by simp) ?_
 refine zW H' ?_
 refine zC ?_
 refine zB ?_
 refine ops H' ?_
 refine zE ?_
 refine zC ?_
 refine zB ?_
 refine ops H' ?_
 obtain ⟨x6,hy',h0'⟩:=zbi h0'
 refine zO H' (fun _=>[]) (W_impl_Body_hasDel _ _ _ hy') ?_
 refine ops H' ?_
 refine zE ?_
 refine retN ?_
 obtain rfl:=zso h0'
 exact outG H' rfl rfl
theorem W_impl_KilledIn (w:T_impl_Weave) (v:Int) (r':(List Int)) (h0':impl_KilledIn w v=some r'):Fn X 25 [.agg [.list false 1 (List.map (rL false 1 (rK .i64)) w.Parents),.list false 4 (List.map (zA false) w.Bodies)],.one (.sc (.int .i64 v))] [.one (.list true 1 (List.map (rK .i64) r'))] []:=by
 have H':=And.intro t41 (And.intro R_Li64 (And.intro qD (R_i64)))
 unfold impl_KilledIn at h0'
 refine Fn.start (fn:=f25) (N:=8) (res:=[.tmp 4]) rfl rfl rfl rfl rfl (by simp) ?_
 refine zW H' ?_
 refine zC ?_
 refine zB ?_
 refine ops H' ?_
 refine zE ?_
 refine zC ?_
 refine zB ?_
 refine ops H' ?_
 refine opsV_frz H' 4 ?_
 refine opsV_mkF H' ?_
 obtain ⟨x7,hy',h0'⟩:=zbi h0'
 refine zO H' (fun _=>[]) (W_impl_placesOf__1 _ (fun z0'=>impl_KilledIn_c1 z0' v) _ _ (fun z0' r' h'=>W_impl_KilledIn_c1 z0' _ r' h') _ hy') ?_
 refine ops H' ?_
 refine zE ?_
 refine retN ?_
 obtain rfl:=zso h0'
 exact outG H' rfl rfl
theorem W_impl_set_list (s:Int) (r':(List Int)) (h0':impl_set_list s=some r'):Fn X 97 [.one (.sc (.int .u64 s))] [.one (.list true 1 (List.map (rK .i64) r'))] []:=by
 have H':=And.intro t3 (And.intro t44 (R_i64))
 unfold impl_set_list at h0'
 refine Fn.start (fn:=f97) (N:=17) (res:=[.tmp 2]) rfl rfl rfl rfl rfl (by simp) ?_
 refine zW H' ?_
 refine zC ?_
 refine zB ?_
 refine ops H' ?_
 refine zE ?_
 refine zC ?_
 refine zB ?_
 refine ops H' ?_
 refine zE ?_
 refine zU (fun e'=>∃ out_,impl_set_list_j1 out_=some r'∧e'=⟨17,1,2,[(3,.pl (.one (.ref 1 [])))],[(1,.list true 1 (List.map (rK .i64) out_))]⟩) ?_ ?_
 ·refine zC ?_
  refine zB ?_
  refine ops H' ?_
  refine zE ?_
  obtain ⟨p,hl',h0'⟩:=zbi h0'
  refine zJ ?_
  refine zX (fun s' e'=>∃ x5 out__1,s'=(x5,out__1)∧e'=⟨17,1,2,[(0,.pl (.one (.v (.sc (.int .u64 s))))),(3,.pl (.one (.ref 1 []))),(5,.pl (.one (.v (.sc (.int .i64 x5)))))],[(1,.list true 1 (List.map (rK .i64) out__1))]⟩) hl' (shd [0,3,5] [(2,1)] 2 ⟨_,_,rfl,rfl⟩) ?_
  rintro s' y1' e' h1' ⟨x5,out__1,rfl,rfl⟩
  replace h1':impl_set_list_l1 s x5 out__1=some y1':=h1'
  unfold impl_set_list_l1 at h1'
  refine zC ?_
  refine zB ?_
  refine ops H' ?_
  refine zE ?_
  refine zC ?_
  refine zH (fun hc'=>?_) (fun hc'=>?_)
  ·replace h1':=(ifT hc').symm.trans h1'
   refine zR ?_
   refine zC ?_
   refine zJ ?_
   refine zC ?_
   refine zB ?_
   refine ops H' ?_
   refine zE ?_
   refine zC ?_
   refine zB ?_
   refine ops H' ?_
   obtain ⟨x10,hy',h1'⟩:=zbi h1'
   refine zO H' (fun _=>[]) (W_impl_set_has _ _ _ hy') ?_
   refine zE ?_
   refine zH (fun hc'=>?_) (fun hc'=>?_)
   ·replace h1':=(ifT hc').symm.trans h1'
    refine zB ?_
    obtain ⟨l,hv',h1'⟩:=zbi h1'
    have H':=And.intro (app1_f hv') H'
    refine ops H' ?_
    refine zE ?_
    refine zB ?_
    refine ops H' ?_
    refine zE ?_
    obtain rfl:=zso h1'
    exact shd [0,3,5] [(1,1)] 2 ⟨_,rfl,_,_,rfl,rfl⟩
   ·replace h1':=(ifF hc').symm.trans h1'
    refine zR ?_
    refine zB ?_
    refine ops H' ?_
    refine zE ?_
    obtain rfl:=zso h1'
    exact shd [0,3,5] [(1,1)] 2 ⟨_,rfl,_,_,rfl,rfl⟩
  ·replace h1':=(ifF hc').symm.trans h1'
   refine exitN ?_
   obtain rfl:=zso h1'
   refine ⟨_,rfl,fun hr'=>?_⟩
   subst hr'
   exact shd [3] [(1,1)] 2 ⟨_,h0',rfl⟩
 ·rintro e' ⟨out_,h0',rfl⟩
  unfold impl_set_list_j1 at h0'
  refine zC ?_
  refine zB ?_
  refine ops H' ?_
  refine zE ?_
  refine retN ?_
  obtain rfl:=zso h0'
  exact outG H' rfl rfl
theorem W_impl_ClosureOf (parents:List (List Int)) (v:Int) (r':(List Int)) (h0':impl_ClosureOf parents v=some r'):Fn X 27 [.one (.list false 1 (List.map (rL false 1 (rK .i64)) parents)),.one (.sc (.int .i64 v))] [.one (.list true 1 (List.map (rK .i64) r'))] []:=by
 have H':=And.intro t38 (And.intro t133 (And.intro t137 (And.intro R_Li64 (And.intro R_i64 (R_u64)))))
 unfold impl_ClosureOf at h0'
 refine Fn.start (fn:=f27) (N:=21) (res:=[.tmp 4]) rfl rfl rfl rfl rfl (by simp) ?_
 refine zW H' ?_
 refine zC ?_
 refine zB ?_
 refine ops H' ?_
 refine zE ?_
 refine zC ?_
 refine zC ?_
 refine zB ?_
 refine ops H' ?_
 obtain ⟨x8,hy',h0'⟩:=zbi h0'
 refine zO H' (fun _=>[]) (W_impl_isPlace _ _ _ hy') ?_
 refine ops H' ?_
 obtain ⟨b,gh0',h0'⟩:=zbi h0'
 refine qG 4 (fun e'=>e'=⟨21,2,2,[(0,.pl (.one (.v (.list false 1 (List.map (rL false 1 (rK .i64)) parents))))),(1,.pl (.one (.v (.sc (.int .i64 v))))),(14,.pl (.one (.v (.sc (.bool b)))))],[]⟩) ?_ ?_
 ·simp only [List.take_succ_cons,List.take_zero]
  refine opsV_sp (fun hc'=>?_) (fun hc'=>?_)
  ·replace gh0':=(ifF hc').symm.trans gh0'
   refine ops H' ?_
   obtain ⟨x12,hy',gh0'⟩:=zbi gh0'
   refine zO H' (fun _=>[]) (W_impl_GraphOk _ _ hy') ?_
   refine ops H' ?_
   obtain rfl:=zso gh0'
   refine zD ?_
   exact ⟨rfl,shd [0,1,14] [] 2 rfl⟩
  ·replace gh0':=(ifT hc').symm.trans gh0'
   refine ops H' ?_
   obtain rfl:=zso gh0'
   refine zD ?_
   exact ⟨rfl,shd [0,1,14] [] 2 rfl⟩
 ·rintro e' rfl
  simp only [List.drop_succ_cons,List.drop_zero]
  refine zE ?_
  refine zH (fun hc'=>?_) (fun hc'=>?_)
  ·replace h0':=(ifT hc').symm.trans h0'
   refine zC ?_
   refine zB ?_
   refine ops H' ?_
   refine zE ?_
   refine retN ?_
   obtain rfl:=zso h0'
   exact outG H' rfl rfl
  ·replace h0':=(ifF hc').symm.trans h0'
   refine zR ?_
   refine zC ?_
   refine zB ?_
   refine ops H' ?_
   obtain ⟨x16,hy',h0'⟩:=zbi h0'
   refine zO H' (fun _=>[]) (W_impl_closures _ _ hy') ?_
   obtain ⟨x,hv',h0'⟩:=zbi h0'
   have H':=And.intro (zP hv') H'
   refine ops H' ?_
   obtain ⟨x20,hy',h0'⟩:=zbi h0'
   refine zO H' (fun _=>[]) (W_impl_set_list _ _ hy') ?_
   refine ops H' ?_
   refine zE ?_
   refine retN ?_
   obtain rfl:=zso h0'
   exact outG H' rfl rfl
theorem W_impl_LiveIn (w:T_impl_Weave) (set:List Int) (r':(List Int)) (h0':impl_LiveIn w set=some r'):Fn X 26 [.agg [.list false 1 (List.map (rL false 1 (rK .i64)) w.Parents),.list false 4 (List.map (zA false) w.Bodies)],.one (.list false 1 (List.map (rK .i64) set))] [.one (.list true 1 (List.map (rK .i64) r'))] []:=by
 have H':=And.intro t41 (And.intro R_Li64 (And.intro qD (R_i64)))
 unfold impl_LiveIn at h0'
 refine Fn.start (fn:=f26) (N:=11) (res:=[.tmp 4]) rfl rfl rfl rfl rfl (by simp) ?_
 refine zW H' ?_
 refine zC ?_
 refine zB ?_
 refine ops H' ?_
 refine zE ?_
 refine zC ?_
 refine zC ?_
 refine zB ?_
 refine ops H' ?_
 obtain ⟨x6,hy',h0'⟩:=zbi h0'
 refine zO H' (fun _=>[]) (W_impl_WeaveOk _ _ hy') ?_
 refine ops H' ?_
 refine zE ?_
 refine zH (fun hc'=>?_) (fun hc'=>?_)
 ·replace h0':=(ifT hc').symm.trans h0'
  refine zC ?_
  refine zB ?_
  refine ops H' ?_
  refine zE ?_
  refine retN ?_
  obtain rfl:=zso h0'
  exact outG H' rfl rfl
 ·replace h0':=(ifF hc').symm.trans h0'
  refine zR ?_
  refine zC ?_
  refine zB ?_
  refine ops H' ?_
  obtain ⟨x9,hy',h0'⟩:=zbi h0'
  refine zO H' (fun _=>[]) (W_impl_setOf _ _ hy') ?_
  obtain ⟨x10,hy',h0'⟩:=zbi h0'
  refine zO H' (fun _=>[]) (W_impl_Weave_liveIn _ _ _ hy') ?_
  refine ops H' ?_
  refine zE ?_
  refine retN ?_
  obtain rfl:=zso h0'
  exact outG H' rfl rfl
theorem zS (list_:List Int) (x:Int) (r':Bool) (h0':laws_within list_ x=some r'):Fn X 28 [.one (.list false 1 (List.map (rK .i64) list_)),.one (.sc (.int .i64 x))] [.one (.sc (.bool r'))] []:=by
 have H':=And.intro t3 (And.intro t44 (R_i64))
 unfold laws_within at h0'
 refine Fn.start (fn:=f28) (N:=18) (res:=[.tmp 4]) rfl rfl rfl rfl rfl (by simp) ?_
 refine zW H' ?_
 refine zC ?_
 refine zB ?_
 refine ops H' ?_
 refine zE ?_
 refine zU (fun e'=>laws_within_j1=some r'∧e'=⟨18,2,2,[],[]⟩) ?_ ?_
 ·refine zC ?_
  refine zB ?_
  refine ops H' ?_
  refine zE ?_
  obtain ⟨p,hl',h0'⟩:=zbi h0'
  refine zJ ?_
  refine zX (fun i e'=>e'=⟨18,2,2,[(0,.pl (.one (.v (.list false 1 (List.map (rK .i64) list_))))),(1,.pl (.one (.v (.sc (.int .i64 x))))),(5,.pl (.one (.v (.sc (.int .i64 i)))))],[]⟩) hl' (shd [0,1,5] [] 2 rfl) ?_
  rintro i y1' e' h1' rfl
  replace h1':laws_within_l1 list_ x i=some y1':=h1'
  unfold laws_within_l1 at h1'
  refine zC ?_
  refine zC ?_
  refine zB ?_
  refine ops H' ?_
  refine zE ?_
  refine zH (fun hc'=>?_) (fun hc'=>?_)
  ·replace h1':=(ifT hc').symm.trans h1'
   refine zR ?_
   refine zC ?_
   refine zJ ?_
   refine zC ?_
   refine zB ?_
   obtain ⟨x_1,hv',h1'⟩:=zbi h1'
   have H':=And.intro (zP hv') H'
   refine ops H' ?_
   refine zE ?_
   refine zH (fun hc'=>?_) (fun hc'=>?_)
   ·replace h1':=(ifT hc').symm.trans h1'
    refine zC ?_
    refine zB ?_
    refine ops H' ?_
    refine zE ?_
    refine retN ?_
    obtain rfl:=zso h1'
    refine ⟨_,rfl,fun hr'=>?_⟩
    subst hr'
    obtain rfl:=zso h0'
    exact outG H' rfl rfl
   ·replace h1':=(ifF hc').symm.trans h1'
    refine zR ?_
    refine zB ?_
    refine ops H' ?_
    refine zE ?_
    obtain rfl:=zso h1'
    exact shd [0,1,5] [] 2 ⟨_,rfl,rfl⟩
  ·replace h1':=(ifF hc').symm.trans h1'
   refine exitN ?_
   obtain rfl:=zso h1'
   refine ⟨_,rfl,fun hr'=>?_⟩
   subst hr'
   exact shd [] [] 2 ⟨h0',rfl⟩
 ·rintro e' ⟨h0',rfl⟩
  unfold laws_within_j1 at h0'
  refine zC ?_
  refine zB ?_
  refine ops H' ?_
  refine zE ?_
  refine retN ?_
  obtain rfl:=zso h0'
  exact outG H' rfl rfl
end Go.TV.KFnLives
