/- Walks. -/
import Derived.Test.YthfhiepgdeghpaaKFnLivesE
import Derived.Test.YthfhiepgdeghpaaKFnLivesW3
import Derived.Test.YthfhiepgdeghpaaKFnLivesW4
set_option linter.unusedVariables false
set_option linter.unusedSimpArgs false
set_option maxHeartbeats 8000000
set_option maxRecDepth 100000
namespace Go.TV.KFnLives
attribute [local irreducible] anyV wpV opsV Does thenV blockV RetL quV seqV
open Go.Proofs.Try Go.TV.F
theorem W_impl_Weave_livesIn (w:T_impl_Weave) (place:Int) (r':(List Int)) (h0':impl_Weave_livesIn w place=some r'):Fn X 98 [.one (.box false [.list false 1 (List.map (rL false 1 (rK .i64)) w.Parents),.list false 4 (List.map (zA false) w.Bodies)]),.one (.sc (.int .i64 place))] [.one (.list true 1 (List.map (rK .i64) r'))] []:=by
 have H':=And.intro t3 (And.intro t38 (And.intro t39 (And.intro t41 (And.intro t44 (And.intro t50 (And.intro t133 (And.intro t137 (And.intro R_Li64 (And.intro qD (And.intro R_i64 (R_u64)))))))))))
 unfold impl_Weave_livesIn at h0'
 refine Fn.start (fn:=f98) (N:=34) (res:=[.tmp 4]) rfl rfl rfl rfl rfl (by simp) ?_
 refine zW H' ?_
 refine zC ?_
 refine zB ?_
 refine ops H' ?_
 refine zE ?_
 refine zC ?_
 refine zB ?_
 refine ops H' ?_
 refine zE ?_
 refine zU (fun e'=>∃ out_,impl_Weave_livesIn_j1 out_=some r'∧e'=⟨34,2,3,[(5,.pl (.one (.ref 2 [])))],[(2,.list true 1 (List.map (rK .i64) out_))]⟩) ?_ ?_
 ·refine zC ?_
  refine zB ?_
  refine ops H' ?_
  obtain ⟨x12,hy',h0'⟩:=zbi h0'
  refine zO H' (fun _=>[]) (W_impl_closures _ _ hy') ?_
  refine ops H' ?_
  refine zE ?_
  obtain ⟨p,hl',h0'⟩:=zbi h0'
  refine zJ ?_
  refine zX (fun s' e'=>∃ x14 out__1,s'=(x14,out__1)∧e'=⟨34,2,4,[(0,.pl (.one (.v (.box false [.list false 1 (List.map (rL false 1 (rK .i64)) w.Parents),.list false 4 (List.map (zA false) w.Bodies)])))),(1,.pl (.one (.v (.sc (.int .i64 place))))),(5,.pl (.one (.ref 2 []))),(12,.pl (.one (.ref 3 []))),(13,.pl (.one (.v (.sc (.int .i64 (x12.length:Int)))))),(14,.pl (.one (.v (.sc (.int .i64 x14)))))],[(2,.list true 1 (List.map (rK .i64) out__1)),(3,.list true 1 (List.map (rK .u64) x12))]⟩) hl' (shd [0,1,5,12,13,14] [(3,2),(4,3)] 4 ⟨_,_,rfl,rfl⟩) ?_
  rintro s' y1' e' h1' ⟨x14,out__1,rfl,rfl⟩
  replace h1':qJ w place x12 x14 out__1=some y1':=h1'
  unfold qJ at h1'
  refine zC ?_
  refine zB ?_
  refine ops H' ?_
  refine zE ?_
  refine zC ?_
  refine zH (fun hc'=>?_) (fun hc'=>?_)
  ·replace h1':=(ifT hc').symm.trans h1'
   refine zR ?_
   refine zC ?_
   refine zJ ?_
   refine zC ?_
   refine zB ?_
   obtain ⟨x,hv',h1'⟩:=zbi h1'
   have H':=And.intro (zP hv') H'
   refine ops H' ?_
   refine zE ?_
   refine zC ?_
   refine zB ?_
   obtain ⟨x_1,hv',h1'⟩:=zbi h1'
   have H':=And.intro (zP hv') H'
   refine ops H' ?_
   obtain ⟨x27,hy',h1'⟩:=zbi h1'
   refine zO H' (fun _=>[]) (W_impl_Body_isLive _ _ _ hy') ?_
   refine zE ?_
   refine zH (fun hc'=>?_) (fun hc'=>?_)
   ·replace h1':=(ifT hc').symm.trans h1'
    refine zB ?_
    obtain ⟨l,hv',h1'⟩:=zbi h1'
    have H':=And.intro (app1_f hv') H'
    refine ops H' ?_
    refine zE ?_
    refine zB ?_
    refine ops H' ?_
    refine zE ?_
    obtain rfl:=zso h1'
    exact shd [0,1,5,12,13,14] [(2,2),(3,3)] 4 ⟨_,rfl,_,_,rfl,rfl⟩
   ·replace h1':=(ifF hc').symm.trans h1'
    refine zR ?_
    refine zB ?_
    refine ops H' ?_
    refine zE ?_
    obtain rfl:=zso h1'
    exact shd [0,1,5,12,13,14] [(2,2),(3,3)] 4 ⟨_,rfl,_,_,rfl,rfl⟩
  ·replace h1':=(ifF hc').symm.trans h1'
   refine exitN ?_
   obtain rfl:=zso h1'
   refine ⟨_,rfl,fun hr'=>?_⟩
   subst hr'
   exact shd [5] [(2,2)] 3 ⟨_,h0',rfl⟩
 ·rintro e' ⟨out_,h0',rfl⟩
  unfold impl_Weave_livesIn_j1 at h0'
  refine zC ?_
  refine zB ?_
  refine ops H' ?_
  refine zE ?_
  refine retN ?_
  obtain rfl:=zso h0'
  exact outG H' rfl rfl
theorem W_impl_LivesIn (w:T_impl_Weave) (place:Int) (r':(List Int)) (h0':impl_LivesIn w place=some r'):Fn X 29 [.agg [.list false 1 (List.map (rL false 1 (rK .i64)) w.Parents),.list false 4 (List.map (zA false) w.Bodies)],.one (.sc (.int .i64 place))] [.one (.list true 1 (List.map (rK .i64) r'))] []:=by
 have H':=And.intro t39 (And.intro t41 (And.intro R_Li64 (And.intro qD (R_i64))))
 unfold impl_LivesIn at h0'
 refine Fn.start (fn:=f29) (N:=18) (res:=[.tmp 4]) rfl rfl rfl rfl rfl (by simp) ?_
 refine zW H' ?_
 refine zC ?_
 refine zB ?_
 refine ops H' ?_
 refine zE ?_
 refine zC ?_
 refine zC ?_
 refine zB ?_
 refine ops H' ?_
 obtain ⟨x9,hy',h0'⟩:=zbi h0'
 refine zO H' (fun _=>[]) (W_impl_isPlace _ _ _ hy') ?_
 refine ops H' ?_
 obtain ⟨b,gh0',h0'⟩:=zbi h0'
 refine qG 4 (fun e'=>e'=⟨18,3,4,[(1,.pl (.one (.v (.sc (.int .i64 place))))),(2,.pl (.one (.ref 3 []))),(15,.pl (.one (.v (.sc (.bool b)))))],[(3,.box true [.list false 1 (List.map (rL false 1 (rK .i64)) w.Parents),.list false 4 (List.map (zA false) w.Bodies)])]⟩) ?_ ?_
 ·simp only [List.take_succ_cons,List.take_zero]
  refine opsV_sp (fun hc'=>?_) (fun hc'=>?_)
  ·replace gh0':=(ifF hc').symm.trans gh0'
   refine ops H' ?_
   obtain ⟨x13,hy',gh0'⟩:=zbi gh0'
   refine zO H' (fun _=>[]) (W_impl_WeaveOk _ _ hy') ?_
   refine ops H' ?_
   obtain rfl:=zso gh0'
   refine zD ?_
   exact ⟨rfl,shd [1,2,15] [(3,3)] 4 rfl⟩
  ·replace gh0':=(ifT hc').symm.trans gh0'
   refine ops H' ?_
   obtain rfl:=zso gh0'
   refine zD ?_
   exact ⟨rfl,shd [1,2,15] [(3,3)] 4 rfl⟩
 ·rintro e' rfl
  simp only [List.drop_succ_cons,List.drop_zero]
  refine zE ?_
  refine zH (fun hc'=>?_) (fun hc'=>?_)
  ·replace h0':=(ifT hc').symm.trans h0'
   refine zC ?_
   refine zB ?_
   refine ops H' ?_
   refine zE ?_
   refine retN ?_
   obtain rfl:=zso h0'
   exact outG H' rfl rfl
  ·replace h0':=(ifF hc').symm.trans h0'
   refine zR ?_
   refine zC ?_
   refine zB ?_
   refine ops H' ?_
   obtain ⟨x17,hy',h0'⟩:=zbi h0'
   refine zO H' (fun _=>[]) (W_impl_Weave_livesIn _ _ _ hy') ?_
   refine ops H' ?_
   refine zE ?_
   refine retN ?_
   obtain rfl:=zso h0'
   exact outG H' rfl rfl
end Go.TV.KFnLives
