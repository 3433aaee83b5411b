/- Walks. -/
import Derived.Test.YtmoglghkjfjalaaKFnExactStatsOfE
import Derived.Test.YtmoglghkjfjalaaKFnExactStatsOfW3
set_option linter.unusedVariables false
set_option linter.unusedSimpArgs false
set_option maxHeartbeats 8000000
set_option maxRecDepth 100000
namespace Go.TV.KFnExactStatsOf
attribute [local irreducible] anyV wpV opsV Does thenV blockV RetL quV seqV
open Go.Proofs.Try Go.TV.F
theorem W_impl_bodiesOk (w:T_impl_Weave) (closed:List Int) (r':Bool) (h0':impl_bodiesOk w closed=some r'):Fn X 128 [.agg [.list false 1 (List.map (rL false 1 (rK .i64)) w.Parents),.list false 4 (List.map (zC false) w.Bodies)],.one (.list false 1 (List.map (rK .u64) closed))] [.one (.sc (.bool r'))] []:=by
 have H':=And.intro t3 (And.intro t9 (And.intro t30 (And.intro t31 (And.intro t33 (And.intro t43 (And.intro t105 (And.intro t106 (And.intro t110 (And.intro R_Li64 (And.intro qK (And.intro R_i64 (R_u64))))))))))))
 unfold impl_bodiesOk at h0'
 refine Fn.start (fn:=f128) (N:=97) (res:=[.tmp 4]) rfl rfl rfl rfl rfl (by simp) ?_
 refine zW H' ?_
 refine zB ?_
 refine zA ?_
 refine ops H' ?_
 refine zF ?_
 refine zB ?_
 refine zA ?_
 obtain ⟨x14,hv',h0'⟩:=zbi h0'
 have H':=And.intro (mkl_f hv') H'
 refine ops H' ?_
 refine zF ?_
 refine zU (fun e'=>∃ born,impl_bodiesOk_j1 w closed born=some r'∧e'=⟨97,3,5,[(1,.pl (.one (.v (.list false 1 (List.map (rK .u64) closed))))),(2,.pl (.one (.ref 3 []))),(5,.pl (.one (.ref 4 [])))],[(3,.box true [.list false 1 (List.map (rL false 1 (rK .i64)) w.Parents),.list false 4 (List.map (zC false) w.Bodies)]),(4,.list true 1 (List.map (rK .i64) born))]⟩) ?_ ?_
 ·refine zB ?_
  refine zA ?_
  refine ops H' ?_
  refine zF ?_
  obtain ⟨p_1,hl',h0'⟩:=zbi h0'
  refine zI ?_
  refine zR (fun s' e'=>∃ x18 born_1,s'=(x18,born_1)∧e'=⟨97,3,5,[(1,.pl (.one (.v (.list false 1 (List.map (rK .u64) closed))))),(2,.pl (.one (.ref 3 []))),(5,.pl (.one (.ref 4 []))),(16,.pl (.one (.v (.list false 4 (List.map (zC false) w.Bodies))))),(17,.pl (.one (.v (.sc (.int .i64 (w.Bodies.length:Int)))))),(18,.pl (.one (.v (.sc (.int .i64 x18)))))],[(3,.box true [.list false 1 (List.map (rL false 1 (rK .i64)) w.Parents),.list false 4 (List.map (zC false) w.Bodies)]),(4,.list true 1 (List.map (rK .i64) born_1))]⟩) hl' (shd [1,2,5,16,17,18] [(3,3),(4,4)] 5 ⟨_,_,rfl,rfl⟩) ?_
  rintro s' y1' e' h1' ⟨x18,born_1,rfl,rfl⟩
  replace h1':qV w closed x18 born_1=some y1':=h1'
  unfold qV at h1'
  refine zB ?_
  refine zA ?_
  refine ops H' ?_
  refine zF ?_
  refine zB ?_
  refine zH (fun hc'=>?_) (fun hc'=>?_)
  ·replace h1':=(ifT hc').symm.trans h1'
   refine zM ?_
   refine zU (fun e'=>∃ born_2,impl_bodiesOk_j3 x18 born_2=some y1'∧e'=⟨97,3,5,[(1,.pl (.one (.v (.list false 1 (List.map (rK .u64) closed))))),(2,.pl (.one (.ref 3 []))),(5,.pl (.one (.ref 4 []))),(16,.pl (.one (.v (.list false 4 (List.map (zC false) w.Bodies))))),(17,.pl (.one (.v (.sc (.int .i64 (w.Bodies.length:Int)))))),(18,.pl (.one (.v (.sc (.int .i64 x18)))))],[(3,.box true [.list false 1 (List.map (rL false 1 (rK .i64)) w.Parents),.list false 4 (List.map (zC false) w.Bodies)]),(4,.list true 1 (List.map (rK .i64) born_2))]⟩) ?_ ?_
   ·refine zI ?_
    refine zB ?_
    refine zA ?_
    obtain ⟨x_2,hv',h1'⟩:=zbi h1'
    have H':=And.intro (zS hv') H'
    refine ops H' ?_
    refine zF ?_
    refine zB ?_
    refine zB ?_
    refine regQ ?_
    refine ops H' ?_
    obtain ⟨x24,hy',h1'⟩:=zbi h1'
    refine callGQ H' (W_impl_LineOk _ _ hy') ?_
    refine ops H' ?_
    obtain ⟨b_1,gh1',h1'⟩:=zbi h1'
    refine quV_cut 7 (fun e'=>e'=⟨97,3,6,[(1,.pl (.one (.v (.list false 1 (List.map (rK .u64) closed))))),(2,.pl (.one (.ref 3 []))),(5,.pl (.one (.ref 4 []))),(7,.pl (.one (.ref 5 []))),(16,.pl (.one (.v (.list false 4 (List.map (zC false) w.Bodies))))),(17,.pl (.one (.v (.sc (.int .i64 (w.Bodies.length:Int)))))),(18,.pl (.one (.v (.sc (.int .i64 x18))))),(33,.pl (.one (.v (.sc (.bool b_1)))))],[(3,.box true [.list false 1 (List.map (rL false 1 (rK .i64)) w.Parents),.list false 4 (List.map (zC false) w.Bodies)]),(4,.list true 1 (List.map (rK .i64) born_1)),(5,.box true [.sc (.string x_2.Line),.sc (.int .i64 x_2.Ins),.sc (.int .i64 x_2.Ord),.list false 1 (List.map (rK .i64) x_2.Dels)])]⟩) ?_ ?_
    ·simp only [List.take_succ_cons,List.take_zero]
     refine quV_sp (fun hc'=>?_) (fun hc'=>?_)
     ·replace gh1':=(ifF hc').symm.trans gh1'
      refine ops H' ?_
      obtain ⟨x31,hy',gh1'⟩:=zbi gh1'
      refine callGQ H' (W_impl_isPlace _ _ _ hy') ?_
      refine ops H' ?_
      obtain rfl:=zso gh1'
      refine qQ ?_
      exact ⟨rfl,shd [1,2,5,7,16,17,18,33] [(3,3),(4,4),(5,5)] 6 rfl⟩
     ·replace gh1':=(ifT hc').symm.trans gh1'
      refine ops H' ?_
      obtain rfl:=zso gh1'
      refine qQ ?_
      exact ⟨rfl,shd [1,2,5,7,16,17,18,33] [(3,3),(4,4),(5,5)] 6 rfl⟩
    ·rintro e' rfl
     simp only [List.drop_succ_cons,List.drop_zero]
     refine ops H' ?_
     obtain ⟨b_2,gh1',h1'⟩:=zbi h1'
     refine quV_cut 9 (fun e'=>e'=⟨97,3,6,[(1,.pl (.one (.v (.list false 1 (List.map (rK .u64) closed))))),(2,.pl (.one (.ref 3 []))),(5,.pl (.one (.ref 4 []))),(7,.pl (.one (.ref 5 []))),(16,.pl (.one (.v (.list false 4 (List.map (zC false) w.Bodies))))),(17,.pl (.one (.v (.sc (.int .i64 (w.Bodies.length:Int)))))),(18,.pl (.one (.v (.sc (.int .i64 x18))))),(43,.pl (.one (.v (.sc (.bool b_2)))))],[(3,.box true [.list false 1 (List.map (rL false 1 (rK .i64)) w.Parents),.list false 4 (List.map (zC false) w.Bodies)]),(4,.list true 1 (List.map (rK .i64) born_1)),(5,.box true [.sc (.string x_2.Line),.sc (.int .i64 x_2.Ins),.sc (.int .i64 x_2.Ord),.list false 1 (List.map (rK .i64) x_2.Dels)])]⟩) ?_ ?_
     ·simp only [List.take_succ_cons,List.take_zero]
      refine quV_sp (fun hc'=>?_) (fun hc'=>?_)
      ·replace gh1':=(ifF hc').symm.trans gh1'
       obtain ⟨x_3,hv',gh1'⟩:=zbi gh1'
       have H':=And.intro (zS hv') H'
       refine ops H' ?_
       obtain rfl:=zso gh1'
       refine qQ ?_
       exact ⟨rfl,shd [1,2,5,7,16,17,18,43] [(3,3),(4,4),(5,5)] 6 rfl⟩
      ·replace gh1':=(ifT hc').symm.trans gh1'
       refine ops H' ?_
       obtain rfl:=zso gh1'
       refine qQ ?_
       exact ⟨rfl,shd [1,2,5,7,16,17,18,43] [(3,3),(4,4),(5,5)] 6 rfl⟩
     ·rintro e' rfl
      simp only [List.drop_succ_cons,List.drop_zero]
      refine ops H' ?_
      obtain ⟨b_3,gh1',h1'⟩:=zbi h1'
      refine quV_cut 7 (fun e'=>e'=⟨97,3,6,[(1,.pl (.one (.v (.list false 1 (List.map (rK .u64) closed))))),(2,.pl (.one (.ref 3 []))),(5,.pl (.one (.ref 4 []))),(7,.pl (.one (.ref 5 []))),(16,.pl (.one (.v (.list false 4 (List.map (zC false) w.Bodies))))),(17,.pl (.one (.v (.sc (.int .i64 (w.Bodies.length:Int)))))),(18,.pl (.one (.v (.sc (.int .i64 x18))))),(51,.pl (.one (.v (.sc (.bool b_3)))))],[(3,.box true [.list false 1 (List.map (rL false 1 (rK .i64)) w.Parents),.list false 4 (List.map (zC false) w.Bodies)]),(4,.list true 1 (List.map (rK .i64) born_1)),(5,.box true [.sc (.string x_2.Line),.sc (.int .i64 x_2.Ins),.sc (.int .i64 x_2.Ord),.list false 1 (List.map (rK .i64) x_2.Dels)])]⟩) ?_ ?_
      ·simp only [List.take_succ_cons,List.take_zero]
       refine quV_sp (fun hc'=>?_) (fun hc'=>?_)
       ·replace gh1':=(ifF hc').symm.trans gh1'
        refine ops H' ?_
        obtain ⟨x49,hy',gh1'⟩:=zbi gh1'
        refine callGQ H' (W_impl_ascends _ _ _ hy') ?_
        refine ops H' ?_
        obtain rfl:=zso gh1'
        refine qQ ?_
        exact ⟨rfl,shd [1,2,5,7,16,17,18,51] [(3,3),(4,4),(5,5)] 6 rfl⟩
       ·replace gh1':=(ifT hc').symm.trans gh1'
        refine ops H' ?_
        obtain rfl:=zso gh1'
        refine qQ ?_
        exact ⟨rfl,shd [1,2,5,7,16,17,18,51] [(3,3),(4,4),(5,5)] 6 rfl⟩
      ·rintro e' rfl
       simp only [List.drop_succ_cons,List.drop_zero]
       refine quN ?_
       refine zH (fun hc'=>?_) (fun hc'=>?_)
       ·replace h1':=(ifT hc').symm.trans h1'
        refine zB ?_
        refine zA ?_
        refine ops H' ?_
        refine zF ?_
        refine zN ?_
        obtain rfl:=zso h1'
        refine ⟨_,rfl,fun hr'=>?_⟩
        subst hr'
        obtain rfl:=zso h0'
        exact zP H' rfl rfl
       ·replace h1':=(ifF hc').symm.trans h1'
        refine zM ?_
        refine zB ?_
        refine zA ?_
        obtain ⟨x_4,hv',h1'⟩:=zbi h1'
        have H':=And.intro (zS hv') H'
        refine ops H' ?_
        refine zF ?_
        refine zB ?_
        refine zA ?_
        refine ops H' ?_
        refine zF ?_
        obtain ⟨p_2,hl',h1'⟩:=zbi h1'
        refine zI ?_
        refine zR (fun x62 e'=>e'=⟨97,3,6,[(1,.pl (.one (.v (.list false 1 (List.map (rK .u64) closed))))),(2,.pl (.one (.ref 3 []))),(5,.pl (.one (.ref 4 []))),(7,.pl (.one (.ref 5 []))),(16,.pl (.one (.v (.list false 4 (List.map (zC false) w.Bodies))))),(17,.pl (.one (.v (.sc (.int .i64 (w.Bodies.length:Int)))))),(18,.pl (.one (.v (.sc (.int .i64 x18))))),(60,.pl (.one (.v (.list false 1 (List.map (rK .i64) x_2.Dels))))),(61,.pl (.one (.v (.sc (.int .i64 (x_2.Dels.length:Int)))))),(62,.pl (.one (.v (.sc (.int .i64 x62)))))],[(3,.box true [.list false 1 (List.map (rL false 1 (rK .i64)) w.Parents),.list false 4 (List.map (zC false) w.Bodies)]),(4,.list true 1 (List.map (rK .i64) (born_1.set x_2.Ins.toNat (wk .i64 (x_4+1))))),(5,.box true [.sc (.string x_2.Line),.sc (.int .i64 x_2.Ins),.sc (.int .i64 x_2.Ord),.list false 1 (List.map (rK .i64) x_2.Dels)])]⟩) hl' (shd [1,2,5,7,16,17,18,60,61,62] [(3,3),(4,4),(5,5)] 6 rfl) ?_
        rintro x62 y2' e' h2' rfl
        replace h2':impl_bodiesOk_l3 w closed x_2 x62=some y2':=h2'
        unfold impl_bodiesOk_l3 at h2'
        refine zB ?_
        refine zA ?_
        refine ops H' ?_
        refine zF ?_
        refine zB ?_
        refine zH (fun hc'=>?_) (fun hc'=>?_)
        ·replace h2':=(ifT hc').symm.trans h2'
         refine zM ?_
         refine zB ?_
         refine zI ?_
         refine zB ?_
         refine zA ?_
         obtain ⟨x_5,hv',h2'⟩:=zbi h2'
         have H':=And.intro (zS hv') H'
         refine ops H' ?_
         refine zF ?_
         refine zB ?_
         refine regQ ?_
         obtain ⟨x_6,hv',h2'⟩:=zbi h2'
         have H':=And.intro (zS hv') H'
         refine ops H' ?_
         obtain ⟨x73,hy',h2'⟩:=zbi h2'
         refine callGQ H' (W_impl_unionOf _ _ _ hy') ?_
         obtain ⟨x74,hy',h2'⟩:=zbi h2'
         refine callGQ H' (W_impl_Body_isLive _ _ _ hy') ?_
         refine ops H' ?_
         refine quN ?_
         refine zH (fun hc'=>?_) (fun hc'=>?_)
         ·replace h2':=(ifT hc').symm.trans h2'
          refine zB ?_
          refine zA ?_
          refine ops H' ?_
          refine zF ?_
          refine zN ?_
          obtain rfl:=zso h2'
          refine ⟨_,rfl,fun hr'=>?_⟩
          subst hr'
          obtain rfl:=zso h1'
          refine ⟨_,rfl,fun hr'=>?_⟩
          subst hr'
          obtain rfl:=zso h0'
          exact zP H' rfl rfl
         ·replace h2':=(ifF hc').symm.trans h2'
          refine zM ?_
          refine zA ?_
          refine ops H' ?_
          refine zF ?_
          obtain rfl:=zso h2'
          exact shd [1,2,5,7,16,17,18,60,61,62] [(3,3),(4,4),(5,5)] 6 ⟨_,rfl,rfl⟩
        ·replace h2':=(ifF hc').symm.trans h2'
         refine qJ ?_
         obtain rfl:=zso h2'
         refine ⟨_,rfl,fun hr'=>?_⟩
         subst hr'
         exact shd [1,2,5,16,17,18] [(3,3),(4,4)] 5 ⟨_,h1',rfl⟩
   ·rintro e' ⟨born_2,h1',rfl⟩
    unfold impl_bodiesOk_j3 at h1'
    refine zA ?_
    refine ops H' ?_
    refine zF ?_
    obtain rfl:=zso h1'
    exact shd [1,2,5,16,17,18] [(3,3),(4,4)] 5 ⟨_,rfl,_,_,rfl,rfl⟩
  ·replace h1':=(ifF hc').symm.trans h1'
   refine qJ ?_
   obtain rfl:=zso h1'
   refine ⟨_,rfl,fun hr'=>?_⟩
   subst hr'
   exact shd [1,2,5] [(3,3),(4,4)] 5 ⟨_,h0',rfl⟩
 ·rintro e' ⟨born,h0',rfl⟩
  unfold impl_bodiesOk_j1 at h0'
  refine zU (fun e'=>impl_bodiesOk_j2=some r'∧e'=⟨97,3,3,[],[]⟩) ?_ ?_
  ·refine zB ?_
   refine zA ?_
   refine ops H' ?_
   refine zF ?_
   obtain ⟨p,hl',h0'⟩:=zbi h0'
   refine zI ?_
   refine zR (fun x80 e'=>e'=⟨97,3,5,[(2,.pl (.one (.ref 3 []))),(5,.pl (.one (.ref 4 []))),(78,.pl (.one (.v (.list false 1 (List.map (rK .u64) closed))))),(79,.pl (.one (.v (.sc (.int .i64 (closed.length:Int)))))),(80,.pl (.one (.v (.sc (.int .i64 x80)))))],[(3,.box true [.list false 1 (List.map (rL false 1 (rK .i64)) w.Parents),.list false 4 (List.map (zC false) w.Bodies)]),(4,.list true 1 (List.map (rK .i64) born))]⟩) hl' (shd [2,5,78,79,80] [(3,3),(4,4)] 5 rfl) ?_
   rintro x80 y1' e' h1' rfl
   replace h1':impl_bodiesOk_l1 w closed born x80=some y1':=h1'
   unfold impl_bodiesOk_l1 at h1'
   refine zB ?_
   refine zA ?_
   refine ops H' ?_
   refine zF ?_
   refine zB ?_
   refine zH (fun hc'=>?_) (fun hc'=>?_)
   ·replace h1':=(ifT hc').symm.trans h1'
    refine zM ?_
    refine zB ?_
    refine zI ?_
    refine zB ?_
    refine zA ?_
    obtain ⟨x,hv',h1'⟩:=zbi h1'
    have H':=And.intro (zS hv') H'
    refine ops H' ?_
    refine zF ?_
    refine zB ?_
    refine zA ?_
    obtain ⟨x_1,hv',h1'⟩:=zbi h1'
    have H':=And.intro (zS hv') H'
    refine ops H' ?_
    obtain ⟨b,gh1',h1'⟩:=zbi h1'
    refine qE 5 (fun e'=>e'=⟨97,3,5,[(2,.pl (.one (.ref 3 []))),(5,.pl (.one (.ref 4 []))),(78,.pl (.one (.v (.list false 1 (List.map (rK .u64) closed))))),(79,.pl (.one (.v (.sc (.int .i64 (closed.length:Int)))))),(80,.pl (.one (.v (.sc (.int .i64 x80))))),(95,.pl (.one (.v (.sc (.bool b)))))],[(3,.box true [.list false 1 (List.map (rL false 1 (rK .i64)) w.Parents),.list false 4 (List.map (zC false) w.Bodies)]),(4,.list true 1 (List.map (rK .i64) born))]⟩) ?_ ?_
    ·simp only [List.take_succ_cons,List.take_zero]
     refine qI (fun hc'=>?_) (fun hc'=>?_)
     ·replace gh1':=(ifF hc').symm.trans gh1'
      refine ops H' ?_
      obtain ⟨x92,hy',gh1'⟩:=zbi gh1'
      refine zY H' (fun _=>[]) (W_impl_Weave_liveIn _ _ _ hy') ?_
      refine ops H' ?_
      obtain rfl:=zso gh1'
      refine zG ?_
      exact ⟨rfl,shd [2,5,78,79,80,95] [(3,3),(4,4)] 5 rfl⟩
     ·replace gh1':=(ifT hc').symm.trans gh1'
      refine ops H' ?_
      obtain rfl:=zso gh1'
      refine zG ?_
      exact ⟨rfl,shd [2,5,78,79,80,95] [(3,3),(4,4)] 5 rfl⟩
    ·rintro e' rfl
     simp only [List.drop_succ_cons,List.drop_zero]
     refine zF ?_
     refine zH (fun hc'=>?_) (fun hc'=>?_)
     ·replace h1':=(ifT hc').symm.trans h1'
      refine zB ?_
      refine zA ?_
      refine ops H' ?_
      refine zF ?_
      refine zN ?_
      obtain rfl:=zso h1'
      refine ⟨_,rfl,fun hr'=>?_⟩
      subst hr'
      obtain rfl:=zso h0'
      exact zP H' rfl rfl
     ·replace h1':=(ifF hc').symm.trans h1'
      refine zM ?_
      refine zA ?_
      refine ops H' ?_
      refine zF ?_
      obtain rfl:=zso h1'
      exact shd [2,5,78,79,80] [(3,3),(4,4)] 5 ⟨_,rfl,rfl⟩
   ·replace h1':=(ifF hc').symm.trans h1'
    refine qJ ?_
    obtain rfl:=zso h1'
    refine ⟨_,rfl,fun hr'=>?_⟩
    subst hr'
    exact shd [] [] 3 ⟨h0',rfl⟩
  ·rintro e' ⟨h0',rfl⟩
   unfold impl_bodiesOk_j2 at h0'
   refine zB ?_
   refine zA ?_
   refine ops H' ?_
   refine zF ?_
   refine zN ?_
   obtain rfl:=zso h0'
   exact zP H' rfl rfl
theorem W_impl_WeaveOk (w:T_impl_Weave) (r':Bool) (h0':impl_WeaveOk w=some r'):Fn X 74 [.agg [.list false 1 (List.map (rL false 1 (rK .i64)) w.Parents),.list false 4 (List.map (zC false) w.Bodies)]] [.one (.sc (.bool r'))] []:=by
 have H':=And.intro t3 (And.intro t30 (And.intro t31 (And.intro t33 (And.intro R_Li64 (And.intro qK (And.intro R_i64 (R_u64)))))))
 unfold impl_WeaveOk at h0'
 refine Fn.start (fn:=f74) (N:=19) (res:=[.tmp 2]) rfl rfl rfl rfl rfl (by simp) ?_
 refine zW H' ?_
 refine zB ?_
 refine zA ?_
 refine ops H' ?_
 refine zF ?_
 refine zB ?_
 obtain ⟨b,gh0_1_0,h0'⟩:=zbi h0'
 obtain ⟨b_1,gh1_1_0,h0'⟩:=zbi h0'
 refine wpV_J (fun e'=>e'=⟨19,2,2,[(2,.pl (.one (.v (.sc (.bool b_1)))))],[]⟩) ?_ ?_
 ·rcases Bool.eq_false_or_eq_true (decide ((w.Bodies.length:Int)≤300)) with hc4_1_0 | hc4_1_0
  ·replace gh0_1_0:=(ifT hc4_1_0).symm.trans gh0_1_0
   obtain ⟨x10,hy_x10,gh0_1_0⟩:=zbi gh0_1_0
   obtain rfl:=zso gh0_1_0
   rcases Bool.eq_false_or_eq_true x10 with hc9_1_0 | hc9_1_0
   ·replace gh1_1_0:=(ifT hc9_1_0).symm.trans gh1_1_0
    obtain ⟨x16,hy_x16,gh1_1_0⟩:=zbi gh1_1_0
    obtain ⟨x17,hy_x17,gh1_1_0⟩:=zbi gh1_1_0
    obtain rfl:=zso gh1_1_0
    refine regAnyF [(1,4,.pl (.one (.v (.list false 4 (List.map (zC false) w.Bodies))))),(2,5,.pl (.one (.v (.sc (.int .i64 (w.Bodies.length:Int)))))),(3,6,.pl (.one (.v (.sc (.bool (decide ((w.Bodies.length:Int)≤300))))))),(4,7,.pl (.one (.v (.sc (.bool (decide ((w.Bodies.length:Int)≤300))))))),(6,9,.pl (.one (.v (.list false 1 (List.map (rL false 1 (rK .i64)) w.Parents))))),(7,10,.pl (.one (.v (.sc (.bool x10))))),(8,11,.pl (.one (.v (.sc (.bool x10))))),(9,12,.pl (.one (.v (.sc (.bool x10))))),(10,13,.pl (.agg [.v (.list false 1 (List.map (rL false 1 (rK .i64)) w.Parents)),.v (.list false 4 (List.map (zC false) w.Bodies))])),(12,15,.pl (.one (.v (.list false 1 (List.map (rL false 1 (rK .i64)) w.Parents))))),(14,17,.pl (.one (.v (.sc (.bool x17))))),(15,18,.pl (.one (.v (.sc (.bool x17)))))] ?_
    refine (?_:anyF X ?ops1_0_0 _ _ ?P1_0_0 _)
    have d1_0_0_0':anyF X ?ops1_0_0 [0,1,2,3,4,5,6,7,8,9,10,11,12,13,14,15,16] [] ?P1_0_0 ⟨19,2,2,[(2,.pl (.one (.v (.sc (.bool x17)))))],[]⟩:=by
     refine fend (e2:=⟨19,2,2,[(2,.pl (.one (.v (.sc (.bool x17)))))],[]⟩) [] [] [] [] trivial ⟨rfl,shd [2] [] 2 rfl⟩
    have d1_0_0_1':anyF X ?ops1_0_0 [0,1,2,3,4,5,6,7,8,9,11,12,13] [(10,13,.pl (.agg [.v (.list false 1 (List.map (rL false 1 (rK .i64)) w.Parents)),.v (.list false 4 (List.map (zC false) w.Bodies))])),(14,17,.pl (.one (.v (.sc (.bool x17))))),(15,18,.pl (.one (.v (.sc (.bool x17)))))] ?P1_0_0 ⟨19,2,4,[(1,.pl (.one (.ref 2 []))),(12,.pl (.one (.v (.sc (.bool x10))))),(16,.pl (.one (.ref 3 [])))],[(2,.box true [.list false 1 (List.map (rL false 1 (rK .i64)) w.Parents),.list false 4 (List.map (zC false) w.Bodies)]),(3,.list true 1 (List.map (rK .u64) x16))]⟩:=by
     refine fnode [10,14,15] [.q 10 13 (.pl (.agg [.v (.list false 1 (List.map (rL false 1 (rK .i64)) w.Parents)),.v (.list false 4 (List.map (zC false) w.Bodies))])) [],.q 14 17 (.pl (.one (.v (.sc (.bool x17))))) [10],.q 15 18 (.pl (.one (.v (.sc (.bool x17))))) [14],.m 16 [10,14,15] [0,1,2,3,4,5,6,7,8,9,10,11,12,13,14,15,16] []] [(10,13),(14,17),(15,18)] [(10,true,[],[]),(14,true,[10],[]),(15,true,[14],[]),(16,false,[10,14,15],[0,1,2,3,4,5,6,7,8,9,10,11,12,13,14,15,16])] ⟨?_,?_,?_,?_,trivial⟩
     ·refine zV 0 ⟨19,2,4,[(1,.pl (.one (.ref 2 []))),(12,.pl (.one (.v (.sc (.bool x10))))),(16,.pl (.one (.ref 3 [])))],[(2,.box true [.list false 1 (List.map (rL false 1 (rK .i64)) w.Parents),.list false 4 (List.map (zC false) w.Bodies)]),(3,.list true 1 (List.map (rK .u64) x16))]⟩ ?_
      refine opsOn hc9_1_0 ?_
      refine ops H' ?_
      refine zG ⟨rfl,shd [13,1,12,16] [(2,2),(3,3)] 4 rfl⟩
     ·refine zV 1 ⟨19,2,4,[(13,.pl (.agg [.v (.list false 1 (List.map (rL false 1 (rK .i64)) w.Parents)),.v (.list false 4 (List.map (zC false) w.Bodies))])),(1,.pl (.one (.ref 2 []))),(12,.pl (.one (.v (.sc (.bool x10))))),(16,.pl (.one (.ref 3 [])))],[(2,.box true [.list false 1 (List.map (rL false 1 (rK .i64)) w.Parents),.list false 4 (List.map (zC false) w.Bodies)]),(3,.list true 1 (List.map (rK .u64) x16))]⟩ ?_
      refine opsOn hc9_1_0 ?_
      refine zY H' (fun _=>[]) (W_impl_bodiesOk _ _ _ hy_x17) ?_
      refine zG ⟨rfl,shd [17,1,12,16] [(2,2),(3,3)] 4 rfl⟩
     ·refine zV 2 ⟨19,2,4,[(17,.pl (.one (.v (.sc (.bool x17))))),(1,.pl (.one (.ref 2 []))),(12,.pl (.one (.v (.sc (.bool x10))))),(16,.pl (.one (.ref 3 [])))],[(2,.box true [.list false 1 (List.map (rL false 1 (rK .i64)) w.Parents),.list false 4 (List.map (zC false) w.Bodies)]),(3,.list true 1 (List.map (rK .u64) x16))]⟩ ?_
      refine opsPick H' hc9_1_0 ?_
      refine zG ⟨rfl,shd [18,1,12,16] [(2,2),(3,3)] 4 rfl⟩
     ·refine obMx ⟨19,2,4,[(13,.pl (.agg [.v (.list false 1 (List.map (rL false 1 (rK .i64)) w.Parents)),.v (.list false 4 (List.map (zC false) w.Bodies))])),(17,.pl (.one (.v (.sc (.bool x17))))),(18,.pl (.one (.v (.sc (.bool x17))))),(1,.pl (.one (.ref 2 []))),(12,.pl (.one (.v (.sc (.bool x10))))),(16,.pl (.one (.ref 3 [])))],[(2,.box true [.list false 1 (List.map (rL false 1 (rK .i64)) w.Parents),.list false 4 (List.map (zC false) w.Bodies)]),(3,.list true 1 (List.map (rK .u64) x16))]⟩ ?_
      refine ops H' ?_
      refine zG ⟨rfl,.inl ⟨rfl,?_⟩⟩
      exact qF [2] [] 2 d1_0_0_0'
    have d1_0_0_2':anyF X ?ops1_0_0 [0,1,2,3,4,5,6,7,8,9,11] [(10,13,.pl (.agg [.v (.list false 1 (List.map (rL false 1 (rK .i64)) w.Parents)),.v (.list false 4 (List.map (zC false) w.Bodies))])),(12,15,.pl (.one (.v (.list false 1 (List.map (rL false 1 (rK .i64)) w.Parents))))),(14,17,.pl (.one (.v (.sc (.bool x17))))),(15,18,.pl (.one (.v (.sc (.bool x17)))))] ?P1_0_0 ⟨19,2,3,[(1,.pl (.one (.ref 2 []))),(12,.pl (.one (.v (.sc (.bool x10))))),(14,.pl (.one (.addr 2 [] 0 0 0)))],[(2,.box true [.list false 1 (List.map (rL false 1 (rK .i64)) w.Parents),.list false 4 (List.map (zC false) w.Bodies)])]⟩:=by
     refine fnode [10,12] [.q 10 13 (.pl (.agg [.v (.list false 1 (List.map (rL false 1 (rK .i64)) w.Parents)),.v (.list false 4 (List.map (zC false) w.Bodies))])) [],.q 12 15 (.pl (.one (.v (.list false 1 (List.map (rL false 1 (rK .i64)) w.Parents))))) [],.m 13 [12] [0,1,2,3,4,5,6,7,8,9,11,12,13] [(10,13,.pl (.agg [.v (.list false 1 (List.map (rL false 1 (rK .i64)) w.Parents)),.v (.list false 4 (List.map (zC false) w.Bodies))])),(14,17,.pl (.one (.v (.sc (.bool x17))))),(15,18,.pl (.one (.v (.sc (.bool x17)))))]] [(10,13),(12,15),(14,17),(15,18)] [(10,true,[],[]),(12,true,[],[]),(13,false,[12],[0,1,2,3,4,5,6,7,8,9,11,12,13])] ⟨?_,?_,?_,trivial⟩
     ·refine zV 0 ⟨19,2,3,[(1,.pl (.one (.ref 2 []))),(12,.pl (.one (.v (.sc (.bool x10))))),(14,.pl (.one (.addr 2 [] 0 0 0)))],[(2,.box true [.list false 1 (List.map (rL false 1 (rK .i64)) w.Parents),.list false 4 (List.map (zC false) w.Bodies)])]⟩ ?_
      refine opsOn hc9_1_0 ?_
      refine ops H' ?_
      refine zG ⟨rfl,shd [13,1,12,14] [(2,2)] 3 rfl⟩
     ·refine zV 1 ⟨19,2,3,[(1,.pl (.one (.ref 2 []))),(12,.pl (.one (.v (.sc (.bool x10))))),(14,.pl (.one (.addr 2 [] 0 0 0)))],[(2,.box true [.list false 1 (List.map (rL false 1 (rK .i64)) w.Parents),.list false 4 (List.map (zC false) w.Bodies)])]⟩ ?_
      refine opsOn hc9_1_0 ?_
      refine ops H' ?_
      refine zG ⟨rfl,shd [15,1,12,14] [(2,2)] 3 rfl⟩
     ·refine obMx ⟨19,2,3,[(15,.pl (.one (.v (.list false 1 (List.map (rL false 1 (rK .i64)) w.Parents))))),(1,.pl (.one (.ref 2 []))),(12,.pl (.one (.v (.sc (.bool x10))))),(14,.pl (.one (.addr 2 [] 0 0 0)))],[(2,.box true [.list false 1 (List.map (rL false 1 (rK .i64)) w.Parents),.list false 4 (List.map (zC false) w.Bodies)])]⟩ ?_
      refine opsOn hc9_1_0 ?_
      refine zY H' (fun _=>[]) (W_impl_closures _ _ hy_x16) ?_
      refine zG ⟨rfl,.inl ⟨rfl,?_⟩⟩
      exact qF [1,12,16] [(2,2),(3,3)] 4 d1_0_0_1'
    have d1_0_0_3':anyF X ?ops1_0_0 [0,1,2,3,4,5] [(6,9,.pl (.one (.v (.list false 1 (List.map (rL false 1 (rK .i64)) w.Parents))))),(7,10,.pl (.one (.v (.sc (.bool x10))))),(8,11,.pl (.one (.v (.sc (.bool x10))))),(9,12,.pl (.one (.v (.sc (.bool x10))))),(10,13,.pl (.agg [.v (.list false 1 (List.map (rL false 1 (rK .i64)) w.Parents)),.v (.list false 4 (List.map (zC false) w.Bodies))])),(12,15,.pl (.one (.v (.list false 1 (List.map (rL false 1 (rK .i64)) w.Parents))))),(14,17,.pl (.one (.v (.sc (.bool x17))))),(15,18,.pl (.one (.v (.sc (.bool x17)))))] ?P1_0_0 ⟨19,2,3,[(1,.pl (.one (.ref 2 []))),(7,.pl (.one (.v (.sc (.bool (decide ((w.Bodies.length:Int)≤300))))))),(8,.pl (.one (.addr 2 [] 0 0 0)))],[(2,.box true [.list false 1 (List.map (rL false 1 (rK .i64)) w.Parents),.list false 4 (List.map (zC false) w.Bodies)])]⟩:=by
     refine fnode [6,7,8,9,10] [.q 6 9 (.pl (.one (.v (.list false 1 (List.map (rL false 1 (rK .i64)) w.Parents))))) [],.q 7 10 (.pl (.one (.v (.sc (.bool x10))))) [6],.q 8 11 (.pl (.one (.v (.sc (.bool x10))))) [7],.q 9 12 (.pl (.one (.v (.sc (.bool x10))))) [7,8],.q 10 13 (.pl (.agg [.v (.list false 1 (List.map (rL false 1 (rK .i64)) w.Parents)),.v (.list false 4 (List.map (zC false) w.Bodies))])) [9],.m 11 [9,7,8,6] [0,1,2,3,4,5,6,7,8,9,11] [(10,13,.pl (.agg [.v (.list false 1 (List.map (rL false 1 (rK .i64)) w.Parents)),.v (.list false 4 (List.map (zC false) w.Bodies))])),(12,15,.pl (.one (.v (.list false 1 (List.map (rL false 1 (rK .i64)) w.Parents))))),(14,17,.pl (.one (.v (.sc (.bool x17))))),(15,18,.pl (.one (.v (.sc (.bool x17)))))]] [(6,9),(7,10),(8,11),(9,12),(10,13),(12,15),(14,17),(15,18)] [(6,true,[],[]),(7,true,[6],[]),(8,true,[7],[]),(9,true,[7,8],[]),(10,true,[9],[]),(11,false,[9,7,8,6],[0,1,2,3,4,5,6,7,8,9,11])] ⟨?_,?_,?_,?_,?_,?_,trivial⟩
     ·refine zV 0 ⟨19,2,3,[(1,.pl (.one (.ref 2 []))),(7,.pl (.one (.v (.sc (.bool (decide ((w.Bodies.length:Int)≤300))))))),(8,.pl (.one (.addr 2 [] 0 0 0)))],[(2,.box true [.list false 1 (List.map (rL false 1 (rK .i64)) w.Parents),.list false 4 (List.map (zC false) w.Bodies)])]⟩ ?_
      refine opsOn hc4_1_0 ?_
      refine ops H' ?_
      refine zG ⟨rfl,shd [9,1,7,8] [(2,2)] 3 rfl⟩
     ·refine zV 1 ⟨19,2,3,[(9,.pl (.one (.v (.list false 1 (List.map (rL false 1 (rK .i64)) w.Parents))))),(1,.pl (.one (.ref 2 []))),(7,.pl (.one (.v (.sc (.bool (decide ((w.Bodies.length:Int)≤300))))))),(8,.pl (.one (.addr 2 [] 0 0 0)))],[(2,.box true [.list false 1 (List.map (rL false 1 (rK .i64)) w.Parents),.list false 4 (List.map (zC false) w.Bodies)])]⟩ ?_
      refine opsOn hc4_1_0 ?_
      refine zY H' (fun _=>[]) (W_impl_GraphOk _ _ hy_x10) ?_
      refine zG ⟨rfl,shd [10,1,7,8] [(2,2)] 3 rfl⟩
     ·refine zV 2 ⟨19,2,3,[(10,.pl (.one (.v (.sc (.bool x10))))),(1,.pl (.one (.ref 2 []))),(7,.pl (.one (.v (.sc (.bool (decide ((w.Bodies.length:Int)≤300))))))),(8,.pl (.one (.addr 2 [] 0 0 0)))],[(2,.box true [.list false 1 (List.map (rL false 1 (rK .i64)) w.Parents),.list false 4 (List.map (zC false) w.Bodies)])]⟩ ?_
      refine opsPick H' hc4_1_0 ?_
      refine zG ⟨rfl,shd [11,1,7,8] [(2,2)] 3 rfl⟩
     ·refine zV 3 ⟨19,2,3,[(10,.pl (.one (.v (.sc (.bool x10))))),(11,.pl (.one (.v (.sc (.bool x10))))),(1,.pl (.one (.ref 2 []))),(7,.pl (.one (.v (.sc (.bool (decide ((w.Bodies.length:Int)≤300))))))),(8,.pl (.one (.addr 2 [] 0 0 0)))],[(2,.box true [.list false 1 (List.map (rL false 1 (rK .i64)) w.Parents),.list false 4 (List.map (zC false) w.Bodies)])]⟩ ?_
      refine ops H' ?_
      refine zG ⟨rfl,shd [12,1,7,8] [(2,2)] 3 rfl⟩
     ·refine zV 4 ⟨19,2,3,[(12,.pl (.one (.v (.sc (.bool x10))))),(1,.pl (.one (.ref 2 []))),(7,.pl (.one (.v (.sc (.bool (decide ((w.Bodies.length:Int)≤300))))))),(8,.pl (.one (.addr 2 [] 0 0 0)))],[(2,.box true [.list false 1 (List.map (rL false 1 (rK .i64)) w.Parents),.list false 4 (List.map (zC false) w.Bodies)])]⟩ ?_
      refine opsOn hc9_1_0 ?_
      refine ops H' ?_
      refine zG ⟨rfl,shd [13,1,7,8] [(2,2)] 3 rfl⟩
     ·refine obMx ⟨19,2,3,[(9,.pl (.one (.v (.list false 1 (List.map (rL false 1 (rK .i64)) w.Parents))))),(10,.pl (.one (.v (.sc (.bool x10))))),(11,.pl (.one (.v (.sc (.bool x10))))),(12,.pl (.one (.v (.sc (.bool x10))))),(1,.pl (.one (.ref 2 []))),(7,.pl (.one (.v (.sc (.bool (decide ((w.Bodies.length:Int)≤300))))))),(8,.pl (.one (.addr 2 [] 0 0 0)))],[(2,.box true [.list false 1 (List.map (rL false 1 (rK .i64)) w.Parents),.list false 4 (List.map (zC false) w.Bodies)])]⟩ ?_
      refine opsOn hc9_1_0 ?_
      refine ops H' ?_
      refine zG ⟨rfl,.inl ⟨rfl,?_⟩⟩
      exact qF [1,12,14] [(2,2)] 3 d1_0_0_2'
    have d1_0_0_4':anyF X ?ops1_0_0 [0] [(1,4,.pl (.one (.v (.list false 4 (List.map (zC false) w.Bodies))))),(2,5,.pl (.one (.v (.sc (.int .i64 (w.Bodies.length:Int)))))),(3,6,.pl (.one (.v (.sc (.bool (decide ((w.Bodies.length:Int)≤300))))))),(4,7,.pl (.one (.v (.sc (.bool (decide ((w.Bodies.length:Int)≤300))))))),(6,9,.pl (.one (.v (.list false 1 (List.map (rL false 1 (rK .i64)) w.Parents))))),(7,10,.pl (.one (.v (.sc (.bool x10))))),(8,11,.pl (.one (.v (.sc (.bool x10))))),(9,12,.pl (.one (.v (.sc (.bool x10))))),(10,13,.pl (.agg [.v (.list false 1 (List.map (rL false 1 (rK .i64)) w.Parents)),.v (.list false 4 (List.map (zC false) w.Bodies))])),(12,15,.pl (.one (.v (.list false 1 (List.map (rL false 1 (rK .i64)) w.Parents))))),(14,17,.pl (.one (.v (.sc (.bool x17))))),(15,18,.pl (.one (.v (.sc (.bool x17)))))] ?P1_0_0 ⟨19,2,3,[(1,.pl (.one (.ref 2 []))),(3,.pl (.one (.addr 2 [] 0 0 1)))],[(2,.box true [.list false 1 (List.map (rL false 1 (rK .i64)) w.Parents),.list false 4 (List.map (zC false) w.Bodies)])]⟩:=by
     refine fnode [1,2,3,4] [.q 1 4 (.pl (.one (.v (.list false 4 (List.map (zC false) w.Bodies))))) [],.q 2 5 (.pl (.one (.v (.sc (.int .i64 (w.Bodies.length:Int)))))) [1],.q 3 6 (.pl (.one (.v (.sc (.bool (decide ((w.Bodies.length:Int)≤300))))))) [2],.q 4 7 (.pl (.one (.v (.sc (.bool (decide ((w.Bodies.length:Int)≤300))))))) [3],.m 5 [4,3,2,1] [0,1,2,3,4,5] [(6,9,.pl (.one (.v (.list false 1 (List.map (rL false 1 (rK .i64)) w.Parents))))),(7,10,.pl (.one (.v (.sc (.bool x10))))),(8,11,.pl (.one (.v (.sc (.bool x10))))),(9,12,.pl (.one (.v (.sc (.bool x10))))),(10,13,.pl (.agg [.v (.list false 1 (List.map (rL false 1 (rK .i64)) w.Parents)),.v (.list false 4 (List.map (zC false) w.Bodies))])),(12,15,.pl (.one (.v (.list false 1 (List.map (rL false 1 (rK .i64)) w.Parents))))),(14,17,.pl (.one (.v (.sc (.bool x17))))),(15,18,.pl (.one (.v (.sc (.bool x17)))))]] [(1,4),(2,5),(3,6),(4,7),(6,9),(7,10),(8,11),(9,12),(10,13),(12,15),(14,17),(15,18)] [(1,true,[],[]),(2,true,[1],[]),(3,true,[2],[]),(4,true,[3],[]),(5,false,[4,3,2,1],[0,1,2,3,4,5])] ⟨?_,?_,?_,?_,?_,trivial⟩
     ·refine zV 0 ⟨19,2,3,[(1,.pl (.one (.ref 2 []))),(3,.pl (.one (.addr 2 [] 0 0 1)))],[(2,.box true [.list false 1 (List.map (rL false 1 (rK .i64)) w.Parents),.list false 4 (List.map (zC false) w.Bodies)])]⟩ ?_
      refine ops H' ?_
      refine zG ⟨rfl,shd [4,1,3] [(2,2)] 3 rfl⟩
     ·refine zV 1 ⟨19,2,3,[(4,.pl (.one (.v (.list false 4 (List.map (zC false) w.Bodies))))),(1,.pl (.one (.ref 2 []))),(3,.pl (.one (.addr 2 [] 0 0 1)))],[(2,.box true [.list false 1 (List.map (rL false 1 (rK .i64)) w.Parents),.list false 4 (List.map (zC false) w.Bodies)])]⟩ ?_
      refine ops H' ?_
      refine zG ⟨rfl,shd [5,1,3] [(2,2)] 3 rfl⟩
     ·refine zV 2 ⟨19,2,3,[(5,.pl (.one (.v (.sc (.int .i64 (w.Bodies.length:Int)))))),(1,.pl (.one (.ref 2 []))),(3,.pl (.one (.addr 2 [] 0 0 1)))],[(2,.box true [.list false 1 (List.map (rL false 1 (rK .i64)) w.Parents),.list false 4 (List.map (zC false) w.Bodies)])]⟩ ?_
      refine ops H' ?_
      refine zG ⟨rfl,shd [6,1,3] [(2,2)] 3 rfl⟩
     ·refine zV 3 ⟨19,2,3,[(6,.pl (.one (.v (.sc (.bool (decide ((w.Bodies.length:Int)≤300))))))),(1,.pl (.one (.ref 2 []))),(3,.pl (.one (.addr 2 [] 0 0 1)))],[(2,.box true [.list false 1 (List.map (rL false 1 (rK .i64)) w.Parents),.list false 4 (List.map (zC false) w.Bodies)])]⟩ ?_
      refine ops H' ?_
      refine zG ⟨rfl,shd [7,1,3] [(2,2)] 3 rfl⟩
     ·refine obMx ⟨19,2,3,[(4,.pl (.one (.v (.list false 4 (List.map (zC false) w.Bodies))))),(5,.pl (.one (.v (.sc (.int .i64 (w.Bodies.length:Int)))))),(6,.pl (.one (.v (.sc (.bool (decide ((w.Bodies.length:Int)≤300))))))),(7,.pl (.one (.v (.sc (.bool (decide ((w.Bodies.length:Int)≤300))))))),(1,.pl (.one (.ref 2 []))),(3,.pl (.one (.addr 2 [] 0 0 1)))],[(2,.box true [.list false 1 (List.map (rL false 1 (rK .i64)) w.Parents),.list false 4 (List.map (zC false) w.Bodies)])]⟩ ?_
      refine opsOn hc4_1_0 ?_
      refine ops H' ?_
      refine zG ⟨rfl,.inl ⟨rfl,?_⟩⟩
      exact qF [1,7,8] [(2,2)] 3 d1_0_0_3'
    refine fpure H' 0 [0] [(1,4),(2,5),(3,6),(4,7),(6,9),(7,10),(8,11),(9,12),(10,13),(12,15),(14,17),(15,18)] ?_
    exact qF [1,3] [(2,2)] 3 d1_0_0_4'
   ·replace gh1_1_0:=(ifF hc9_1_0).symm.trans gh1_1_0
    obtain rfl:=zso gh1_1_0
    refine regAnyF [(1,4,.pl (.one (.v (.list false 4 (List.map (zC false) w.Bodies))))),(2,5,.pl (.one (.v (.sc (.int .i64 (w.Bodies.length:Int)))))),(3,6,.pl (.one (.v (.sc (.bool (decide ((w.Bodies.length:Int)≤300))))))),(4,7,.pl (.one (.v (.sc (.bool (decide ((w.Bodies.length:Int)≤300))))))),(6,9,.pl (.one (.v (.list false 1 (List.map (rL false 1 (rK .i64)) w.Parents))))),(7,10,.pl (.one (.v (.sc (.bool x10))))),(8,11,.pl (.one (.v (.sc (.bool x10))))),(9,12,.pl (.one (.v (.sc (.bool x10))))),(10,13,.tup []),(11,14,.tup []),(12,15,.tup []),(13,16,.tup []),(14,17,.tup []),(15,18,.pl (.one (.v (.sc (.bool false)))))] ?_
    refine (?_:anyF X ?ops1_0_1 _ _ ?P1_0_1 _)
    have d1_0_1_0':anyF X ?ops1_0_1 [0,1,2,3,4,5,6,7,8,9,10,11,12,13,14,15,16] [] ?P1_0_1 ⟨19,2,2,[(2,.pl (.one (.v (.sc (.bool false)))))],[]⟩:=by
     refine fend (e2:=⟨19,2,2,[(2,.pl (.one (.v (.sc (.bool false)))))],[]⟩) [] [] [] [] trivial ⟨rfl,shd [2] [] 2 rfl⟩
    have d1_0_1_1':anyF X ?ops1_0_1 [0,1,2,3,4,5] [(6,9,.pl (.one (.v (.list false 1 (List.map (rL false 1 (rK .i64)) w.Parents))))),(7,10,.pl (.one (.v (.sc (.bool x10))))),(8,11,.pl (.one (.v (.sc (.bool x10))))),(9,12,.pl (.one (.v (.sc (.bool x10))))),(10,13,.tup []),(11,14,.tup []),(12,15,.tup []),(13,16,.tup []),(14,17,.tup []),(15,18,.pl (.one (.v (.sc (.bool false)))))] ?P1_0_1 ⟨19,2,3,[(1,.pl (.one (.ref 2 []))),(7,.pl (.one (.v (.sc (.bool (decide ((w.Bodies.length:Int)≤300))))))),(8,.pl (.one (.addr 2 [] 0 0 0)))],[(2,.box true [.list false 1 (List.map (rL false 1 (rK .i64)) w.Parents),.list false 4 (List.map (zC false) w.Bodies)])]⟩:=by
     refine fnode [6,7,8,9,10,11,12,13,14,15] [.q 6 9 (.pl (.one (.v (.list false 1 (List.map (rL false 1 (rK .i64)) w.Parents))))) [],.q 7 10 (.pl (.one (.v (.sc (.bool x10))))) [6],.q 8 11 (.pl (.one (.v (.sc (.bool x10))))) [7],.q 9 12 (.pl (.one (.v (.sc (.bool x10))))) [7,8],.q 10 13 (.tup []) [9],.q 11 14 (.tup []) [9],.q 12 15 (.tup []) [9,11],.q 13 16 (.tup []) [9,12],.q 14 17 (.tup []) [9,10,13],.q 15 18 (.pl (.one (.v (.sc (.bool false))))) [9,14],.m 16 [6,7,8,9,10,11,12,13,14,15] [0,1,2,3,4,5,6,7,8,9,10,11,12,13,14,15,16] []] [(6,9),(7,10),(8,11),(9,12),(10,13),(11,14),(12,15),(13,16),(14,17),(15,18)] [(6,true,[],[]),(7,true,[6],[]),(8,true,[7],[]),(9,true,[7,8],[]),(10,true,[9],[]),(11,true,[9],[]),(12,true,[9,11],[]),(13,true,[9,12],[]),(14,true,[9,10,13],[]),(15,true,[9,14],[]),(16,false,[6,7,8,9,10,11,12,13,14,15],[0,1,2,3,4,5,6,7,8,9,10,11,12,13,14,15,16])] ⟨?_,?_,?_,?_,?_,?_,?_,?_,?_,?_,?_,trivial⟩
     ·refine zV 0 ⟨19,2,3,[(1,.pl (.one (.ref 2 []))),(7,.pl (.one (.v (.sc (.bool (decide ((w.Bodies.length:Int)≤300))))))),(8,.pl (.one (.addr 2 [] 0 0 0)))],[(2,.box true [.list false 1 (List.map (rL false 1 (rK .i64)) w.Parents),.list false 4 (List.map (zC false) w.Bodies)])]⟩ ?_
      refine opsOn hc4_1_0 ?_
      refine ops H' ?_
      refine zG ⟨rfl,shd [9,1,7,8] [(2,2)] 3 rfl⟩
     ·refine zV 1 ⟨19,2,3,[(9,.pl (.one (.v (.list false 1 (List.map (rL false 1 (rK .i64)) w.Parents))))),(1,.pl (.one (.ref 2 []))),(7,.pl (.one (.v (.sc (.bool (decide ((w.Bodies.length:Int)≤300))))))),(8,.pl (.one (.addr 2 [] 0 0 0)))],[(2,.box true [.list false 1 (List.map (rL false 1 (rK .i64)) w.Parents),.list false 4 (List.map (zC false) w.Bodies)])]⟩ ?_
      refine opsOn hc4_1_0 ?_
      refine zY H' (fun _=>[]) (W_impl_GraphOk _ _ hy_x10) ?_
      refine zG ⟨rfl,shd [10,1,7,8] [(2,2)] 3 rfl⟩
     ·refine zV 2 ⟨19,2,3,[(10,.pl (.one (.v (.sc (.bool x10))))),(1,.pl (.one (.ref 2 []))),(7,.pl (.one (.v (.sc (.bool (decide ((w.Bodies.length:Int)≤300))))))),(8,.pl (.one (.addr 2 [] 0 0 0)))],[(2,.box true [.list false 1 (List.map (rL false 1 (rK .i64)) w.Parents),.list false 4 (List.map (zC false) w.Bodies)])]⟩ ?_
      refine opsPick H' hc4_1_0 ?_
      refine zG ⟨rfl,shd [11,1,7,8] [(2,2)] 3 rfl⟩
     ·refine zV 3 ⟨19,2,3,[(10,.pl (.one (.v (.sc (.bool x10))))),(11,.pl (.one (.v (.sc (.bool x10))))),(1,.pl (.one (.ref 2 []))),(7,.pl (.one (.v (.sc (.bool (decide ((w.Bodies.length:Int)≤300))))))),(8,.pl (.one (.addr 2 [] 0 0 0)))],[(2,.box true [.list false 1 (List.map (rL false 1 (rK .i64)) w.Parents),.list false 4 (List.map (zC false) w.Bodies)])]⟩ ?_
      refine ops H' ?_
      refine zG ⟨rfl,shd [12,1,7,8] [(2,2)] 3 rfl⟩
     ·refine zV 4 ⟨19,2,3,[(12,.pl (.one (.v (.sc (.bool x10))))),(1,.pl (.one (.ref 2 []))),(7,.pl (.one (.v (.sc (.bool (decide ((w.Bodies.length:Int)≤300))))))),(8,.pl (.one (.addr 2 [] 0 0 0)))],[(2,.box true [.list false 1 (List.map (rL false 1 (rK .i64)) w.Parents),.list false 4 (List.map (zC false) w.Bodies)])]⟩ ?_
      refine opsOff hc9_1_0 ?_
      refine zG ⟨rfl,shd [13,1,7,8] [(2,2)] 3 rfl⟩
     ·refine zV 5 ⟨19,2,3,[(12,.pl (.one (.v (.sc (.bool x10))))),(1,.pl (.one (.ref 2 []))),(7,.pl (.one (.v (.sc (.bool (decide ((w.Bodies.length:Int)≤300))))))),(8,.pl (.one (.addr 2 [] 0 0 0)))],[(2,.box true [.list false 1 (List.map (rL false 1 (rK .i64)) w.Parents),.list false 4 (List.map (zC false) w.Bodies)])]⟩ ?_
      refine opsOff hc9_1_0 ?_
      refine zG ⟨rfl,shd [14,1,7,8] [(2,2)] 3 rfl⟩
     ·refine zV 6 ⟨19,2,3,[(12,.pl (.one (.v (.sc (.bool x10))))),(14,.tup []),(1,.pl (.one (.ref 2 []))),(7,.pl (.one (.v (.sc (.bool (decide ((w.Bodies.length:Int)≤300))))))),(8,.pl (.one (.addr 2 [] 0 0 0)))],[(2,.box true [.list false 1 (List.map (rL false 1 (rK .i64)) w.Parents),.list false 4 (List.map (zC false) w.Bodies)])]⟩ ?_
      refine opsOff hc9_1_0 ?_
      refine zG ⟨rfl,shd [15,1,7,8] [(2,2)] 3 rfl⟩
     ·refine zV 7 ⟨19,2,3,[(12,.pl (.one (.v (.sc (.bool x10))))),(15,.tup []),(1,.pl (.one (.ref 2 []))),(7,.pl (.one (.v (.sc (.bool (decide ((w.Bodies.length:Int)≤300))))))),(8,.pl (.one (.addr 2 [] 0 0 0)))],[(2,.box true [.list false 1 (List.map (rL false 1 (rK .i64)) w.Parents),.list false 4 (List.map (zC false) w.Bodies)])]⟩ ?_
      refine opsOff hc9_1_0 ?_
      refine zG ⟨rfl,shd [16,1,7,8] [(2,2)] 3 rfl⟩
     ·refine zV 8 ⟨19,2,3,[(12,.pl (.one (.v (.sc (.bool x10))))),(13,.tup []),(16,.tup []),(1,.pl (.one (.ref 2 []))),(7,.pl (.one (.v (.sc (.bool (decide ((w.Bodies.length:Int)≤300))))))),(8,.pl (.one (.addr 2 [] 0 0 0)))],[(2,.box true [.list false 1 (List.map (rL false 1 (rK .i64)) w.Parents),.list false 4 (List.map (zC false) w.Bodies)])]⟩ ?_
      refine opsOff hc9_1_0 ?_
      refine zG ⟨rfl,shd [17,1,7,8] [(2,2)] 3 rfl⟩
     ·refine zV 9 ⟨19,2,3,[(12,.pl (.one (.v (.sc (.bool x10))))),(17,.tup []),(1,.pl (.one (.ref 2 []))),(7,.pl (.one (.v (.sc (.bool (decide ((w.Bodies.length:Int)≤300))))))),(8,.pl (.one (.addr 2 [] 0 0 0)))],[(2,.box true [.list false 1 (List.map (rL false 1 (rK .i64)) w.Parents),.list false 4 (List.map (zC false) w.Bodies)])]⟩ ?_
      refine opsPick H' hc9_1_0 ?_
      refine zG ⟨rfl,shd [18,1,7,8] [(2,2)] 3 rfl⟩
     ·refine obMx ⟨19,2,3,[(9,.pl (.one (.v (.list false 1 (List.map (rL false 1 (rK .i64)) w.Parents))))),(10,.pl (.one (.v (.sc (.bool x10))))),(11,.pl (.one (.v (.sc (.bool x10))))),(12,.pl (.one (.v (.sc (.bool x10))))),(13,.tup []),(14,.tup []),(15,.tup []),(16,.tup []),(17,.tup []),(18,.pl (.one (.v (.sc (.bool false))))),(1,.pl (.one (.ref 2 []))),(7,.pl (.one (.v (.sc (.bool (decide ((w.Bodies.length:Int)≤300))))))),(8,.pl (.one (.addr 2 [] 0 0 0)))],[(2,.box true [.list false 1 (List.map (rL false 1 (rK .i64)) w.Parents),.list false 4 (List.map (zC false) w.Bodies)])]⟩ ?_
      refine ops H' ?_
      refine zG ⟨rfl,.inl ⟨rfl,?_⟩⟩
      exact qF [2] [] 2 d1_0_1_0'
    have d1_0_1_2':anyF X ?ops1_0_1 [0] [(1,4,.pl (.one (.v (.list false 4 (List.map (zC false) w.Bodies))))),(2,5,.pl (.one (.v (.sc (.int .i64 (w.Bodies.length:Int)))))),(3,6,.pl (.one (.v (.sc (.bool (decide ((w.Bodies.length:Int)≤300))))))),(4,7,.pl (.one (.v (.sc (.bool (decide ((w.Bodies.length:Int)≤300))))))),(6,9,.pl (.one (.v (.list false 1 (List.map (rL false 1 (rK .i64)) w.Parents))))),(7,10,.pl (.one (.v (.sc (.bool x10))))),(8,11,.pl (.one (.v (.sc (.bool x10))))),(9,12,.pl (.one (.v (.sc (.bool x10))))),(10,13,.tup []),(11,14,.tup []),(12,15,.tup []),(13,16,.tup []),(14,17,.tup []),(15,18,.pl (.one (.v (.sc (.bool false)))))] ?P1_0_1 ⟨19,2,3,[(1,.pl (.one (.ref 2 []))),(3,.pl (.one (.addr 2 [] 0 0 1)))],[(2,.box true [.list false 1 (List.map (rL false 1 (rK .i64)) w.Parents),.list false 4 (List.map (zC false) w.Bodies)])]⟩:=by
     refine fnode [1,2,3,4] [.q 1 4 (.pl (.one (.v (.list false 4 (List.map (zC false) w.Bodies))))) [],.q 2 5 (.pl (.one (.v (.sc (.int .i64 (w.Bodies.length:Int)))))) [1],.q 3 6 (.pl (.one (.v (.sc (.bool (decide ((w.Bodies.length:Int)≤300))))))) [2],.q 4 7 (.pl (.one (.v (.sc (.bool (decide ((w.Bodies.length:Int)≤300))))))) [3],.m 5 [4,3,2,1] [0,1,2,3,4,5] [(6,9,.pl (.one (.v (.list false 1 (List.map (rL false 1 (rK .i64)) w.Parents))))),(7,10,.pl (.one (.v (.sc (.bool x10))))),(8,11,.pl (.one (.v (.sc (.bool x10))))),(9,12,.pl (.one (.v (.sc (.bool x10))))),(10,13,.tup []),(11,14,.tup []),(12,15,.tup []),(13,16,.tup []),(14,17,.tup []),(15,18,.pl (.one (.v (.sc (.bool false)))))]] [(1,4),(2,5),(3,6),(4,7),(6,9),(7,10),(8,11),(9,12),(10,13),(11,14),(12,15),(13,16),(14,17),(15,18)] [(1,true,[],[]),(2,true,[1],[]),(3,true,[2],[]),(4,true,[3],[]),(5,false,[4,3,2,1],[0,1,2,3,4,5])] ⟨?_,?_,?_,?_,?_,trivial⟩
     ·refine zV 0 ⟨19,2,3,[(1,.pl (.one (.ref 2 []))),(3,.pl (.one (.addr 2 [] 0 0 1)))],[(2,.box true [.list false 1 (List.map (rL false 1 (rK .i64)) w.Parents),.list false 4 (List.map (zC false) w.Bodies)])]⟩ ?_
      refine ops H' ?_
      refine zG ⟨rfl,shd [4,1,3] [(2,2)] 3 rfl⟩
     ·refine zV 1 ⟨19,2,3,[(4,.pl (.one (.v (.list false 4 (List.map (zC false) w.Bodies))))),(1,.pl (.one (.ref 2 []))),(3,.pl (.one (.addr 2 [] 0 0 1)))],[(2,.box true [.list false 1 (List.map (rL false 1 (rK .i64)) w.Parents),.list false 4 (List.map (zC false) w.Bodies)])]⟩ ?_
      refine ops H' ?_
      refine zG ⟨rfl,shd [5,1,3] [(2,2)] 3 rfl⟩
     ·refine zV 2 ⟨19,2,3,[(5,.pl (.one (.v (.sc (.int .i64 (w.Bodies.length:Int)))))),(1,.pl (.one (.ref 2 []))),(3,.pl (.one (.addr 2 [] 0 0 1)))],[(2,.box true [.list false 1 (List.map (rL false 1 (rK .i64)) w.Parents),.list false 4 (List.map (zC false) w.Bodies)])]⟩ ?_
      refine ops H' ?_
      refine zG ⟨rfl,shd [6,1,3] [(2,2)] 3 rfl⟩
     ·refine zV 3 ⟨19,2,3,[(6,.pl (.one (.v (.sc (.bool (decide ((w.Bodies.length:Int)≤300))))))),(1,.pl (.one (.ref 2 []))),(3,.pl (.one (.addr 2 [] 0 0 1)))],[(2,.box true [.list false 1 (List.map (rL false 1 (rK .i64)) w.Parents),.list false 4 (List.map (zC false) w.Bodies)])]⟩ ?_
      refine ops H' ?_
      refine zG ⟨rfl,shd [7,1,3] [(2,2)] 3 rfl⟩
     ·refine obMx ⟨19,2,3,[(4,.pl (.one (.v (.list false 4 (List.map (zC false) w.Bodies))))),(5,.pl (.one (.v (.sc (.int .i64 (w.Bodies.length:Int)))))),(6,.pl (.one (.v (.sc (.bool (decide ((w.Bodies.length:Int)≤300))))))),(7,.pl (.one (.v (.sc (.bool (decide ((w.Bodies.length:Int)≤300))))))),(1,.pl (.one (.ref 2 []))),(3,.pl (.one (.addr 2 [] 0 0 1)))],[(2,.box true [.list false 1 (List.map (rL false 1 (rK .i64)) w.Parents),.list false 4 (List.map (zC false) w.Bodies)])]⟩ ?_
      refine opsOn hc4_1_0 ?_
      refine ops H' ?_
      refine zG ⟨rfl,.inl ⟨rfl,?_⟩⟩
      exact qF [1,7,8] [(2,2)] 3 d1_0_1_1'
    refine fpure H' 0 [0] [(1,4),(2,5),(3,6),(4,7),(6,9),(7,10),(8,11),(9,12),(10,13),(11,14),(12,15),(13,16),(14,17),(15,18)] ?_
    exact qF [1,3] [(2,2)] 3 d1_0_1_2'
  ·replace gh0_1_0:=(ifF hc4_1_0).symm.trans gh0_1_0
   obtain rfl:=zso gh0_1_0
   have hc9_1_0:false=false:=rfl
   replace gh1_1_0:=(ifF hc9_1_0).symm.trans gh1_1_0
   obtain rfl:=zso gh1_1_0
   refine regAnyF [(1,4,.pl (.one (.v (.list false 4 (List.map (zC false) w.Bodies))))),(2,5,.pl (.one (.v (.sc (.int .i64 (w.Bodies.length:Int)))))),(3,6,.pl (.one (.v (.sc (.bool (decide ((w.Bodies.length:Int)≤300))))))),(4,7,.pl (.one (.v (.sc (.bool (decide ((w.Bodies.length:Int)≤300))))))),(5,8,.tup []),(6,9,.tup []),(7,10,.tup []),(8,11,.pl (.one (.v (.sc (.bool false))))),(9,12,.pl (.one (.v (.sc (.bool false))))),(10,13,.tup []),(11,14,.tup []),(12,15,.tup []),(13,16,.tup []),(14,17,.tup []),(15,18,.pl (.one (.v (.sc (.bool false)))))] ?_
   refine (?_:anyF X ?ops1_0_2 _ _ ?P1_0_2 _)
   have d1_0_2_0':anyF X ?ops1_0_2 [0,1,2,3,4,5,6,7,8,9,10,11,12,13,14,15,16] [] ?P1_0_2 ⟨19,2,2,[(2,.pl (.one (.v (.sc (.bool false)))))],[]⟩:=by
    refine fend (e2:=⟨19,2,2,[(2,.pl (.one (.v (.sc (.bool false)))))],[]⟩) [] [] [] [] trivial ⟨rfl,shd [2] [] 2 rfl⟩
   have d1_0_2_1':anyF X ?ops1_0_2 [0] [(1,4,.pl (.one (.v (.list false 4 (List.map (zC false) w.Bodies))))),(2,5,.pl (.one (.v (.sc (.int .i64 (w.Bodies.length:Int)))))),(3,6,.pl (.one (.v (.sc (.bool (decide ((w.Bodies.length:Int)≤300))))))),(4,7,.pl (.one (.v (.sc (.bool (decide ((w.Bodies.length:Int)≤300))))))),(5,8,.tup []),(6,9,.tup []),(7,10,.tup []),(8,11,.pl (.one (.v (.sc (.bool false))))),(9,12,.pl (.one (.v (.sc (.bool false))))),(10,13,.tup []),(11,14,.tup []),(12,15,.tup []),(13,16,.tup []),(14,17,.tup []),(15,18,.pl (.one (.v (.sc (.bool false)))))] ?P1_0_2 ⟨19,2,3,[(1,.pl (.one (.ref 2 []))),(3,.pl (.one (.addr 2 [] 0 0 1)))],[(2,.box true [.list false 1 (List.map (rL false 1 (rK .i64)) w.Parents),.list false 4 (List.map (zC false) w.Bodies)])]⟩:=by
    refine fnode [1,2,3,4,5,6,7,8,9,10,11,12,13,14,15] [.q 1 4 (.pl (.one (.v (.list false 4 (List.map (zC false) w.Bodies))))) [],.q 2 5 (.pl (.one (.v (.sc (.int .i64 (w.Bodies.length:Int)))))) [1],.q 3 6 (.pl (.one (.v (.sc (.bool (decide ((w.Bodies.length:Int)≤300))))))) [2],.q 4 7 (.pl (.one (.v (.sc (.bool (decide ((w.Bodies.length:Int)≤300))))))) [3],.q 5 8 (.tup []) [4],.q 6 9 (.tup []) [4,5],.q 7 10 (.tup []) [4,6],.q 8 11 (.pl (.one (.v (.sc (.bool false))))) [4,7],.q 9 12 (.pl (.one (.v (.sc (.bool false))))) [7,8],.q 10 13 (.tup []) [9],.q 11 14 (.tup []) [9],.q 12 15 (.tup []) [9,11],.q 13 16 (.tup []) [9,12],.q 14 17 (.tup []) [9,10,13],.q 15 18 (.pl (.one (.v (.sc (.bool false))))) [9,14],.m 16 [1,2,3,4,5,6,7,8,9,10,11,12,13,14,15] [0,1,2,3,4,5,6,7,8,9,10,11,12,13,14,15,16] []] [(1,4),(2,5),(3,6),(4,7),(5,8),(6,9),(7,10),(8,11),(9,12),(10,13),(11,14),(12,15),(13,16),(14,17),(15,18)] [(1,true,[],[]),(2,true,[1],[]),(3,true,[2],[]),(4,true,[3],[]),(5,true,[4],[]),(6,true,[4,5],[]),(7,true,[4,6],[]),(8,true,[4,7],[]),(9,true,[7,8],[]),(10,true,[9],[]),(11,true,[9],[]),(12,true,[9,11],[]),(13,true,[9,12],[]),(14,true,[9,10,13],[]),(15,true,[9,14],[]),(16,false,[1,2,3,4,5,6,7,8,9,10,11,12,13,14,15],[0,1,2,3,4,5,6,7,8,9,10,11,12,13,14,15,16])] ⟨?_,?_,?_,?_,?_,?_,?_,?_,?_,?_,?_,?_,?_,?_,?_,?_,trivial⟩
    ·refine zV 0 ⟨19,2,3,[(1,.pl (.one (.ref 2 []))),(3,.pl (.one (.addr 2 [] 0 0 1)))],[(2,.box true [.list false 1 (List.map (rL false 1 (rK .i64)) w.Parents),.list false 4 (List.map (zC false) w.Bodies)])]⟩ ?_
     refine ops H' ?_
     refine zG ⟨rfl,shd [4,1,3] [(2,2)] 3 rfl⟩
    ·refine zV 1 ⟨19,2,3,[(4,.pl (.one (.v (.list false 4 (List.map (zC false) w.Bodies))))),(1,.pl (.one (.ref 2 []))),(3,.pl (.one (.addr 2 [] 0 0 1)))],[(2,.box true [.list false 1 (List.map (rL false 1 (rK .i64)) w.Parents),.list false 4 (List.map (zC false) w.Bodies)])]⟩ ?_
     refine ops H' ?_
     refine zG ⟨rfl,shd [5,1,3] [(2,2)] 3 rfl⟩
    ·refine zV 2 ⟨19,2,3,[(5,.pl (.one (.v (.sc (.int .i64 (w.Bodies.length:Int)))))),(1,.pl (.one (.ref 2 []))),(3,.pl (.one (.addr 2 [] 0 0 1)))],[(2,.box true [.list false 1 (List.map (rL false 1 (rK .i64)) w.Parents),.list false 4 (List.map (zC false) w.Bodies)])]⟩ ?_
     refine ops H' ?_
     refine zG ⟨rfl,shd [6,1,3] [(2,2)] 3 rfl⟩
    ·refine zV 3 ⟨19,2,3,[(6,.pl (.one (.v (.sc (.bool (decide ((w.Bodies.length:Int)≤300))))))),(1,.pl (.one (.ref 2 []))),(3,.pl (.one (.addr 2 [] 0 0 1)))],[(2,.box true [.list false 1 (List.map (rL false 1 (rK .i64)) w.Parents),.list false 4 (List.map (zC false) w.Bodies)])]⟩ ?_
     refine ops H' ?_
     refine zG ⟨rfl,shd [7,1,3] [(2,2)] 3 rfl⟩
    ·refine zV 4 ⟨19,2,3,[(7,.pl (.one (.v (.sc (.bool (decide ((w.Bodies.length:Int)≤300))))))),(1,.pl (.one (.ref 2 []))),(3,.pl (.one (.addr 2 [] 0 0 1)))],[(2,.box true [.list false 1 (List.map (rL false 1 (rK .i64)) w.Parents),.list false 4 (List.map (zC false) w.Bodies)])]⟩ ?_
     refine opsOff hc4_1_0 ?_
     refine zG ⟨rfl,shd [8,1,3] [(2,2)] 3 rfl⟩
    ·refine zV 5 ⟨19,2,3,[(7,.pl (.one (.v (.sc (.bool (decide ((w.Bodies.length:Int)≤300))))))),(8,.tup []),(1,.pl (.one (.ref 2 []))),(3,.pl (.one (.addr 2 [] 0 0 1)))],[(2,.box true [.list false 1 (List.map (rL false 1 (rK .i64)) w.Parents),.list false 4 (List.map (zC false) w.Bodies)])]⟩ ?_
     refine opsOff hc4_1_0 ?_
     refine zG ⟨rfl,shd [9,1,3] [(2,2)] 3 rfl⟩
    ·refine zV 6 ⟨19,2,3,[(7,.pl (.one (.v (.sc (.bool (decide ((w.Bodies.length:Int)≤300))))))),(9,.tup []),(1,.pl (.one (.ref 2 []))),(3,.pl (.one (.addr 2 [] 0 0 1)))],[(2,.box true [.list false 1 (List.map (rL false 1 (rK .i64)) w.Parents),.list false 4 (List.map (zC false) w.Bodies)])]⟩ ?_
     refine opsOff hc4_1_0 ?_
     refine zG ⟨rfl,shd [10,1,3] [(2,2)] 3 rfl⟩
    ·refine zV 7 ⟨19,2,3,[(7,.pl (.one (.v (.sc (.bool (decide ((w.Bodies.length:Int)≤300))))))),(10,.tup []),(1,.pl (.one (.ref 2 []))),(3,.pl (.one (.addr 2 [] 0 0 1)))],[(2,.box true [.list false 1 (List.map (rL false 1 (rK .i64)) w.Parents),.list false 4 (List.map (zC false) w.Bodies)])]⟩ ?_
     refine opsPick H' hc4_1_0 ?_
     refine zG ⟨rfl,shd [11,1,3] [(2,2)] 3 rfl⟩
    ·refine zV 8 ⟨19,2,3,[(10,.tup []),(11,.pl (.one (.v (.sc (.bool false))))),(1,.pl (.one (.ref 2 []))),(3,.pl (.one (.addr 2 [] 0 0 1)))],[(2,.box true [.list false 1 (List.map (rL false 1 (rK .i64)) w.Parents),.list false 4 (List.map (zC false) w.Bodies)])]⟩ ?_
     refine ops H' ?_
     refine zG ⟨rfl,shd [12,1,3] [(2,2)] 3 rfl⟩
    ·refine zV 9 ⟨19,2,3,[(12,.pl (.one (.v (.sc (.bool false))))),(1,.pl (.one (.ref 2 []))),(3,.pl (.one (.addr 2 [] 0 0 1)))],[(2,.box true [.list false 1 (List.map (rL false 1 (rK .i64)) w.Parents),.list false 4 (List.map (zC false) w.Bodies)])]⟩ ?_
     refine opsOff hc9_1_0 ?_
     refine zG ⟨rfl,shd [13,1,3] [(2,2)] 3 rfl⟩
    ·refine zV 10 ⟨19,2,3,[(12,.pl (.one (.v (.sc (.bool false))))),(1,.pl (.one (.ref 2 []))),(3,.pl (.one (.addr 2 [] 0 0 1)))],[(2,.box true [.list false 1 (List.map (rL false 1 (rK .i64)) w.Parents),.list false 4 (List.map (zC false) w.Bodies)])]⟩ ?_
     refine opsOff hc9_1_0 ?_
     refine zG ⟨rfl,shd [14,1,3] [(2,2)] 3 rfl⟩
    ·refine zV 11 ⟨19,2,3,[(12,.pl (.one (.v (.sc (.bool false))))),(14,.tup []),(1,.pl (.one (.ref 2 []))),(3,.pl (.one (.addr 2 [] 0 0 1)))],[(2,.box true [.list false 1 (List.map (rL false 1 (rK .i64)) w.Parents),.list false 4 (List.map (zC false) w.Bodies)])]⟩ ?_
     refine opsOff hc9_1_0 ?_
     refine zG ⟨rfl,shd [15,1,3] [(2,2)] 3 rfl⟩
    ·refine zV 12 ⟨19,2,3,[(12,.pl (.one (.v (.sc (.bool false))))),(15,.tup []),(1,.pl (.one (.ref 2 []))),(3,.pl (.one (.addr 2 [] 0 0 1)))],[(2,.box true [.list false 1 (List.map (rL false 1 (rK .i64)) w.Parents),.list false 4 (List.map (zC false) w.Bodies)])]⟩ ?_
     refine opsOff hc9_1_0 ?_
     refine zG ⟨rfl,shd [16,1,3] [(2,2)] 3 rfl⟩
    ·refine zV 13 ⟨19,2,3,[(12,.pl (.one (.v (.sc (.bool false))))),(13,.tup []),(16,.tup []),(1,.pl (.one (.ref 2 []))),(3,.pl (.one (.addr 2 [] 0 0 1)))],[(2,.box true [.list false 1 (List.map (rL false 1 (rK .i64)) w.Parents),.list false 4 (List.map (zC false) w.Bodies)])]⟩ ?_
     refine opsOff hc9_1_0 ?_
     refine zG ⟨rfl,shd [17,1,3] [(2,2)] 3 rfl⟩
    ·refine zV 14 ⟨19,2,3,[(12,.pl (.one (.v (.sc (.bool false))))),(17,.tup []),(1,.pl (.one (.ref 2 []))),(3,.pl (.one (.addr 2 [] 0 0 1)))],[(2,.box true [.list false 1 (List.map (rL false 1 (rK .i64)) w.Parents),.list false 4 (List.map (zC false) w.Bodies)])]⟩ ?_
     refine opsPick H' hc9_1_0 ?_
     refine zG ⟨rfl,shd [18,1,3] [(2,2)] 3 rfl⟩
    ·refine obMx ⟨19,2,3,[(4,.pl (.one (.v (.list false 4 (List.map (zC false) w.Bodies))))),(5,.pl (.one (.v (.sc (.int .i64 (w.Bodies.length:Int)))))),(6,.pl (.one (.v (.sc (.bool (decide ((w.Bodies.length:Int)≤300))))))),(7,.pl (.one (.v (.sc (.bool (decide ((w.Bodies.length:Int)≤300))))))),(8,.tup []),(9,.tup []),(10,.tup []),(11,.pl (.one (.v (.sc (.bool false))))),(12,.pl (.one (.v (.sc (.bool false))))),(13,.tup []),(14,.tup []),(15,.tup []),(16,.tup []),(17,.tup []),(18,.pl (.one (.v (.sc (.bool false))))),(1,.pl (.one (.ref 2 []))),(3,.pl (.one (.addr 2 [] 0 0 1)))],[(2,.box true [.list false 1 (List.map (rL false 1 (rK .i64)) w.Parents),.list false 4 (List.map (zC false) w.Bodies)])]⟩ ?_
     refine ops H' ?_
     refine zG ⟨rfl,.inl ⟨rfl,?_⟩⟩
     exact qF [2] [] 2 d1_0_2_0'
   refine fpure H' 0 [0] [(1,4),(2,5),(3,6),(4,7),(5,8),(6,9),(7,10),(8,11),(9,12),(10,13),(11,14),(12,15),(13,16),(14,17),(15,18)] ?_
   exact qF [1,3] [(2,2)] 3 d1_0_2_1'
 ·rintro e' rfl
  refine contN ?_
  refine zN ?_
  obtain rfl:=zso h0'
  exact zP H' rfl rfl
theorem W_impl_Store_graphs (s:T_impl_Store) (r':(List (List (List Int)))) (h0':impl_Store_graphs s=some r'):Fn X 142 [.one (.box false [.list false 3 (List.map (zD false) s.Commits),.list false 2 (List.map (zE false) s.Files)])] [.one (.list true 1 (List.map (rL false 1 (rL false 1 (rK .i64))) r'))] []:=by
 have H':=And.intro t3 (And.intro t30 (And.intro t33 (And.intro t61 (And.intro t63 (And.intro t187 (And.intro R_LLi64 (And.intro R_Li64 (And.intro qK (And.intro qP (And.intro qM (And.intro jA (R_i64))))))))))))
 unfold impl_Store_graphs at h0'
 refine Fn.start (fn:=f142) (N:=22) (res:=[.tmp 2]) rfl rfl rfl rfl rfl (by simp) ?_
 refine zW H' ?_
 refine zB ?_
 refine zA ?_
 refine ops H' ?_
 refine zF ?_
 refine zB ?_
 refine zA ?_
 refine ops H' ?_
 refine zF ?_
 refine zU (fun e'=>∃ out_,impl_Store_graphs_j1 out_=some r'∧e'=⟨22,1,2,[(3,.pl (.one (.ref 1 [])))],[(1,.list true 1 (List.map (rL false 1 (rL false 1 (rK .i64))) out_))]⟩) ?_ ?_
 ·refine zB ?_
  refine zA ?_
  refine ops H' ?_
  refine zF ?_
  obtain ⟨p,hl',h0'⟩:=zbi h0'
  refine zI ?_
  refine zR (fun s' e'=>∃ x11 out__1,s'=(x11,out__1)∧e'=⟨22,1,2,[(3,.pl (.one (.ref 1 []))),(9,.pl (.one (.v (.list false 2 (List.map (zE false) s.Files))))),(10,.pl (.one (.v (.sc (.int .i64 (s.Files.length:Int)))))),(11,.pl (.one (.v (.sc (.int .i64 x11)))))],[(1,.list true 1 (List.map (rL false 1 (rL false 1 (rK .i64))) out__1))]⟩) hl' (shd [3,9,10,11] [(2,1)] 2 ⟨_,_,rfl,rfl⟩) ?_
  rintro s' y1' e' h1' ⟨x11,out__1,rfl,rfl⟩
  replace h1':impl_Store_graphs_l1 s x11 out__1=some y1':=h1'
  unfold impl_Store_graphs_l1 at h1'
  refine zB ?_
  refine zA ?_
  refine ops H' ?_
  refine zF ?_
  refine zB ?_
  refine zH (fun hc'=>?_) (fun hc'=>?_)
  ·replace h1':=(ifT hc').symm.trans h1'
   refine zM ?_
   refine zB ?_
   refine zI ?_
   refine zB ?_
   refine zA ?_
   obtain ⟨x,hv',h1'⟩:=zbi h1'
   have H':=And.intro (zS hv') H'
   refine ops H' ?_
   refine zF ?_
   refine zA ?_
   obtain ⟨l,hv',h1'⟩:=zbi h1'
   have H':=And.intro (app1_f hv') H'
   refine ops H' ?_
   refine zF ?_
   refine zA ?_
   refine ops H' ?_
   refine zF ?_
   obtain rfl:=zso h1'
   exact shd [3,9,10,11] [(1,1)] 2 ⟨_,rfl,_,_,rfl,rfl⟩
  ·replace h1':=(ifF hc').symm.trans h1'
   refine qJ ?_
   obtain rfl:=zso h1'
   refine ⟨_,rfl,fun hr'=>?_⟩
   subst hr'
   exact shd [3] [(1,1)] 2 ⟨_,h0',rfl⟩
 ·rintro e' ⟨out_,h0',rfl⟩
  unfold impl_Store_graphs_j1 at h0'
  refine zB ?_
  refine zA ?_
  refine ops H' ?_
  refine zF ?_
  refine zN ?_
  obtain rfl:=zso h0'
  exact zP H' rfl rfl
theorem W_impl_sizesOf (files:List (List (List Int))) (r':(List Int)) (h0':impl_sizesOf files=some r'):Fn X 141 [.one (.list false 1 (List.map (rL false 1 (rL false 1 (rK .i64))) files))] [.one (.list true 1 (List.map (rK .i64) r'))] []:=by
 have H':=And.intro t3 (And.intro t30 (And.intro t43 (And.intro t187 (And.intro R_LLi64 (And.intro R_Li64 (R_i64))))))
 unfold impl_sizesOf at h0'
 refine Fn.start (fn:=f141) (N:=19) (res:=[.tmp 2]) rfl rfl rfl rfl rfl (by simp) ?_
 refine zW H' ?_
 refine zB ?_
 refine zA ?_
 refine ops H' ?_
 refine zF ?_
 refine zB ?_
 refine zA ?_
 refine ops H' ?_
 refine zF ?_
 refine zU (fun e'=>∃ out_,impl_sizesOf_j1 out_=some r'∧e'=⟨19,1,2,[(3,.pl (.one (.ref 1 [])))],[(1,.list true 1 (List.map (rK .i64) out_))]⟩) ?_ ?_
 ·refine zB ?_
  refine zA ?_
  refine ops H' ?_
  refine zF ?_
  obtain ⟨p,hl',h0'⟩:=zbi h0'
  refine zI ?_
  refine zR (fun s' e'=>∃ x8 out__1,s'=(x8,out__1)∧e'=⟨19,1,2,[(3,.pl (.one (.ref 1 []))),(6,.pl (.one (.v (.list false 1 (List.map (rL false 1 (rL false 1 (rK .i64))) files))))),(7,.pl (.one (.v (.sc (.int .i64 (files.length:Int)))))),(8,.pl (.one (.v (.sc (.int .i64 x8)))))],[(1,.list true 1 (List.map (rK .i64) out__1))]⟩) hl' (shd [3,6,7,8] [(2,1)] 2 ⟨_,_,rfl,rfl⟩) ?_
  rintro s' y1' e' h1' ⟨x8,out__1,rfl,rfl⟩
  replace h1':impl_sizesOf_l1 files x8 out__1=some y1':=h1'
  unfold impl_sizesOf_l1 at h1'
  refine zB ?_
  refine zA ?_
  refine ops H' ?_
  refine zF ?_
  refine zB ?_
  refine zH (fun hc'=>?_) (fun hc'=>?_)
  ·replace h1':=(ifT hc').symm.trans h1'
   refine zM ?_
   refine zB ?_
   refine zI ?_
   refine zB ?_
   refine zA ?_
   obtain ⟨x,hv',h1'⟩:=zbi h1'
   have H':=And.intro (zS hv') H'
   refine ops H' ?_
   refine zF ?_
   refine zA ?_
   obtain ⟨l,hv',h1'⟩:=zbi h1'
   have H':=And.intro (app1_f hv') H'
   refine ops H' ?_
   refine zF ?_
   refine zA ?_
   refine ops H' ?_
   refine zF ?_
   obtain rfl:=zso h1'
   exact shd [3,6,7,8] [(1,1)] 2 ⟨_,rfl,_,_,rfl,rfl⟩
  ·replace h1':=(ifF hc').symm.trans h1'
   refine qJ ?_
   obtain rfl:=zso h1'
   refine ⟨_,rfl,fun hr'=>?_⟩
   subst hr'
   exact shd [3] [(1,1)] 2 ⟨_,h0',rfl⟩
 ·rintro e' ⟨out_,h0',rfl⟩
  unfold impl_sizesOf_j1 at h0'
  refine zB ?_
  refine zA ?_
  refine ops H' ?_
  refine zF ?_
  refine zN ?_
  obtain rfl:=zso h0'
  exact zP H' rfl rfl
theorem W_impl_graphOf (list_:List T_impl_Commit) (r':(List (List Int))) (h0':impl_graphOf list_=some r'):Fn X 169 [.one (.list false 3 (List.map (zD false) list_))] [.one (.list true 1 (List.map (rL false 1 (rK .i64)) r'))] []:=by
 have H':=And.intro t3 (And.intro t30 (And.intro t43 (And.intro t60 (And.intro t183 (And.intro R_Li64 (And.intro qP (And.intro qM (R_i64))))))))
 unfold impl_graphOf at h0'
 refine Fn.start (fn:=f169) (N:=19) (res:=[.tmp 2]) rfl rfl rfl rfl rfl (by simp) ?_
 refine zW H' ?_
 refine zB ?_
 refine zA ?_
 refine ops H' ?_
 refine zF ?_
 refine zB ?_
 refine zA ?_
 refine ops H' ?_
 refine zF ?_
 refine zU (fun e'=>∃ out_,impl_graphOf_j1 out_=some r'∧e'=⟨19,1,2,[(3,.pl (.one (.ref 1 [])))],[(1,.list true 1 (List.map (rL false 1 (rK .i64)) out_))]⟩) ?_ ?_
 ·refine zB ?_
  refine zA ?_
  refine ops H' ?_
  refine zF ?_
  obtain ⟨p,hl',h0'⟩:=zbi h0'
  refine zI ?_
  refine zR (fun s' e'=>∃ x8 out__1,s'=(x8,out__1)∧e'=⟨19,1,2,[(3,.pl (.one (.ref 1 []))),(6,.pl (.one (.v (.list false 3 (List.map (zD false) list_))))),(7,.pl (.one (.v (.sc (.int .i64 (list_.length:Int)))))),(8,.pl (.one (.v (.sc (.int .i64 x8)))))],[(1,.list true 1 (List.map (rL false 1 (rK .i64)) out__1))]⟩) hl' (shd [3,6,7,8] [(2,1)] 2 ⟨_,_,rfl,rfl⟩) ?_
  rintro s' y1' e' h1' ⟨x8,out__1,rfl,rfl⟩
  replace h1':impl_graphOf_l1 list_ x8 out__1=some y1':=h1'
  unfold impl_graphOf_l1 at h1'
  refine zB ?_
  refine zA ?_
  refine ops H' ?_
  refine zF ?_
  refine zB ?_
  refine zH (fun hc'=>?_) (fun hc'=>?_)
  ·replace h1':=(ifT hc').symm.trans h1'
   refine zM ?_
   refine zB ?_
   refine zI ?_
   refine zB ?_
   refine zA ?_
   obtain ⟨x,hv',h1'⟩:=zbi h1'
   have H':=And.intro (zS hv') H'
   refine ops H' ?_
   refine zF ?_
   refine zA ?_
   obtain ⟨l,hv',h1'⟩:=zbi h1'
   have H':=And.intro (app1_f hv') H'
   refine ops H' ?_
   refine zF ?_
   refine zA ?_
   refine ops H' ?_
   refine zF ?_
   obtain rfl:=zso h1'
   exact shd [3,6,7,8] [(1,1)] 2 ⟨_,rfl,_,_,rfl,rfl⟩
  ·replace h1':=(ifF hc').symm.trans h1'
   refine qJ ?_
   obtain rfl:=zso h1'
   refine ⟨_,rfl,fun hr'=>?_⟩
   subst hr'
   exact shd [3] [(1,1)] 2 ⟨_,h0',rfl⟩
 ·rintro e' ⟨out_,h0',rfl⟩
  unfold impl_graphOf_j1 at h0'
  refine zB ?_
  refine zA ?_
  refine ops H' ?_
  refine zF ?_
  refine zN ?_
  obtain rfl:=zso h0'
  exact zP H' rfl rfl
theorem W_impl_NoteOk (note:ByteArray) (r':Bool) (h0':impl_NoteOk note=some r'):Fn X 170 [.one (.sc (.string note))] [.one (.sc (.bool r'))] []:=by
 have H':=And.intro t3 (And.intro t5 (t9))
 unfold impl_NoteOk at h0'
 refine Fn.start (fn:=f170) (N:=23) (res:=[.tmp 2]) rfl rfl rfl rfl rfl (by simp) ?_
 refine zW H' ?_
 refine zB ?_
 refine zA ?_
 refine ops H' ?_
 refine zF ?_
 refine zU (fun e'=>impl_NoteOk_j1 note=some r'∧e'=⟨23,1,1,[(0,.pl (.one (.v (.sc (.string note)))))],[]⟩) ?_ ?_
 ·refine zB ?_
  refine zA ?_
  refine ops H' ?_
  refine zF ?_
  obtain ⟨p,hl',h0'⟩:=zbi h0'
  refine zI ?_
  refine zR (fun i e'=>e'=⟨23,1,1,[(0,.pl (.one (.v (.sc (.string note))))),(3,.pl (.one (.v (.sc (.int .i64 i)))))],[]⟩) hl' (shd [0,3] [] 1 rfl) ?_
  rintro i y1' e' h1' rfl
  replace h1':impl_NoteOk_l1 note i=some y1':=h1'
  unfold impl_NoteOk_l1 at h1'
  refine zB ?_
  refine zB ?_
  refine zA ?_
  refine ops H' ?_
  refine zF ?_
  refine zH (fun hc'=>?_) (fun hc'=>?_)
  ·replace h1':=(ifT hc').symm.trans h1'
   refine zM ?_
   refine zB ?_
   refine zI ?_
   refine zB ?_
   refine zA ?_
   obtain ⟨x12,hv',h1'⟩:=zbi h1'
   have H':=And.intro (sidx_f hv') H'
   refine ops H' ?_
   obtain ⟨b,gh1',h1'⟩:=zbi h1'
   refine qE 5 (fun e'=>e'=⟨23,1,1,[(0,.pl (.one (.v (.sc (.string note))))),(3,.pl (.one (.v (.sc (.int .i64 i))))),(19,.pl (.one (.v (.sc (.bool b)))))],[]⟩) ?_ ?_
   ·simp only [List.take_succ_cons,List.take_zero]
    refine qI (fun hc'=>?_) (fun hc'=>?_)
    ·replace gh1':=(ifF hc').symm.trans gh1'
     refine ops H' ?_
     obtain rfl:=zso gh1'
     refine zG ?_
     exact ⟨rfl,shd [0,3,19] [] 1 rfl⟩
    ·replace gh1':=(ifT hc').symm.trans gh1'
     refine ops H' ?_
     obtain rfl:=zso gh1'
     refine zG ?_
     exact ⟨rfl,shd [0,3,19] [] 1 rfl⟩
   ·rintro e' rfl
    simp only [List.drop_succ_cons,List.drop_zero]
    refine zF ?_
    refine zH (fun hc'=>?_) (fun hc'=>?_)
    ·replace h1':=(ifT hc').symm.trans h1'
     refine zB ?_
     refine zA ?_
     refine ops H' ?_
     refine zF ?_
     refine zN ?_
     obtain rfl:=zso h1'
     refine ⟨_,rfl,fun hr'=>?_⟩
     subst hr'
     obtain rfl:=zso h0'
     exact zP H' rfl rfl
    ·replace h1':=(ifF hc').symm.trans h1'
     refine zM ?_
     refine zA ?_
     refine ops H' ?_
     refine zF ?_
     obtain rfl:=zso h1'
     exact shd [0,3] [] 1 ⟨_,rfl,rfl⟩
  ·replace h1':=(ifF hc').symm.trans h1'
   refine qJ ?_
   obtain rfl:=zso h1'
   refine ⟨_,rfl,fun hr'=>?_⟩
   subst hr'
   exact shd [0] [] 1 ⟨h0',rfl⟩
 ·rintro e' ⟨h0',rfl⟩
  unfold impl_NoteOk_j1 at h0'
  refine zB ?_
  refine zA ?_
  refine ops H' ?_
  refine zF ?_
  refine zN ?_
  obtain rfl:=zso h0'
  exact zP H' rfl rfl
theorem W_internal_stringslite_HasPrefix (s:ByteArray) (prefix_:ByteArray) (r':Bool) (h0':jJ s prefix_=some r'):Fn X 201 [.one (.sc (.string s)),.one (.sc (.string prefix_))] [.one (.sc (.bool r'))] []:=by
 have H':=And.intro t3 (t9)
 unfold jJ at h0'
 refine Fn.start (fn:=f201) (N:=18) (res:=[.tmp 4]) rfl rfl rfl rfl rfl (by simp) ?_
 refine zW H' ?_
 refine zB ?_
 refine zA ?_
 refine ops H' ?_
 refine zF ?_
 refine zB ?_
 refine zA ?_
 refine ops H' ?_
 obtain ⟨b,gh0',h0'⟩:=zbi h0'
 refine qE 7 (fun e'=>e'=⟨18,2,2,[(17,.pl (.one (.v (.sc (.bool b)))))],[]⟩) ?_ ?_
 ·simp only [List.take_succ_cons,List.take_zero]
  refine qI (fun hc'=>?_) (fun hc'=>?_)
  ·replace gh0':=(ifT hc').symm.trans gh0'
   obtain ⟨x14,hv',gh0'⟩:=zbi gh0'
   have H':=And.intro (subH_f hv') H'
   refine ops H' ?_
   obtain rfl:=zso gh0'
   refine zG ?_
   exact ⟨rfl,shd [17] [] 2 rfl⟩
  ·replace gh0':=(ifF hc').symm.trans gh0'
   refine ops H' ?_
   obtain rfl:=zso gh0'
   refine zG ?_
   exact ⟨rfl,shd [17] [] 2 rfl⟩
 ·rintro e' rfl
  simp only [List.drop_succ_cons,List.drop_zero]
  refine ops H' ?_
  refine zF ?_
  refine zN ?_
  obtain rfl:=zso h0'
  exact zP H' rfl rfl
theorem W_strings_HasPrefix (s:ByteArray) (prefix_:ByteArray) (r':Bool) (h0':strings_HasPrefix s prefix_=some r'):Fn X 195 [.one (.sc (.string s)),.one (.sc (.string prefix_))] [.one (.sc (.bool r'))] []:=by
 have H':=trivial
 unfold strings_HasPrefix at h0'
 refine Fn.start (fn:=f195) (N:=8) (res:=[.tmp 4]) rfl rfl rfl rfl rfl (by simp) ?_
 refine zW H' ?_
 refine zB ?_
 refine zA ?_
 refine ops H' ?_
 refine zF ?_
 refine zB ?_
 refine zA ?_
 refine ops H' ?_
 obtain ⟨x7,hy',h0'⟩:=zbi h0'
 refine zY H' (fun _=>[]) (W_internal_stringslite_HasPrefix _ _ _ hy') ?_
 refine ops H' ?_
 refine zF ?_
 refine zN ?_
 obtain rfl:=zso h0'
 exact zP H' rfl rfl
theorem W_internal_stringslite_HasSuffix (s:ByteArray) (suffix:ByteArray) (r':Bool) (h0':jK s suffix=some r'):Fn X 202 [.one (.sc (.string s)),.one (.sc (.string suffix))] [.one (.sc (.bool r'))] []:=by
 have H':=And.intro t3 (t9)
 unfold jK at h0'
 refine Fn.start (fn:=f202) (N:=21) (res:=[.tmp 4]) rfl rfl rfl rfl rfl (by simp) ?_
 refine zW H' ?_
 refine zB ?_
 refine zA ?_
 refine ops H' ?_
 refine zF ?_
 refine zB ?_
 refine zA ?_
 refine ops H' ?_
 obtain ⟨b,gh0',h0'⟩:=zbi h0'
 refine qE 10 (fun e'=>e'=⟨21,2,2,[(20,.pl (.one (.v (.sc (.bool b)))))],[]⟩) ?_ ?_
 ·simp only [List.take_succ_cons,List.take_zero]
  refine qI (fun hc'=>?_) (fun hc'=>?_)
  ·replace gh0':=(ifT hc').symm.trans gh0'
   obtain ⟨x17,hv',gh0'⟩:=zbi gh0'
   have H':=And.intro (subL_f hv') H'
   refine ops H' ?_
   obtain rfl:=zso gh0'
   refine zG ?_
   exact ⟨rfl,shd [20] [] 2 rfl⟩
  ·replace gh0':=(ifF hc').symm.trans gh0'
   refine ops H' ?_
   obtain rfl:=zso gh0'
   refine zG ?_
   exact ⟨rfl,shd [20] [] 2 rfl⟩
 ·rintro e' rfl
  simp only [List.drop_succ_cons,List.drop_zero]
  refine ops H' ?_
  refine zF ?_
  refine zN ?_
  obtain rfl:=zso h0'
  exact zP H' rfl rfl
theorem W_strings_HasSuffix (s:ByteArray) (suffix:ByteArray) (r':Bool) (h0':strings_HasSuffix s suffix=some r'):Fn X 196 [.one (.sc (.string s)),.one (.sc (.string suffix))] [.one (.sc (.bool r'))] []:=by
 have H':=trivial
 unfold strings_HasSuffix at h0'
 refine Fn.start (fn:=f196) (N:=8) (res:=[.tmp 4]) rfl rfl rfl rfl rfl (by simp) ?_
 refine zW H' ?_
 refine zB ?_
 refine zA ?_
 refine ops H' ?_
 refine zF ?_
 refine zB ?_
 refine zA ?_
 refine ops H' ?_
 obtain ⟨x7,hy',h0'⟩:=zbi h0'
 refine zY H' (fun _=>[]) (W_internal_stringslite_HasSuffix _ _ _ hy') ?_
 refine ops H' ?_
 refine zF ?_
 refine zN ?_
 obtain rfl:=zso h0'
 exact zP H' rfl rfl
end Go.TV.KFnExactStatsOf
