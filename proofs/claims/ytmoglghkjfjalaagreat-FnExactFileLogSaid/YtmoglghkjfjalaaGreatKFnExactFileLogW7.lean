/- Walks. -/
import Derived.Test.YtmoglghkjfjalaaGreatKFnExactFileLogE
import Derived.Test.YtmoglghkjfjalaaGreatKFnExactFileLogW0
import Derived.Test.YtmoglghkjfjalaaGreatKFnExactFileLogW3
import Derived.Test.YtmoglghkjfjalaaGreatKFnExactFileLogW6
set_option linter.unusedVariables false
set_option linter.unusedSimpArgs false
set_option maxHeartbeats 8000000
set_option maxRecDepth 100000
namespace Go.TV.KFnExactFileLog
attribute [local irreducible] anyV wpV opsV Does thenV blockV RetL quV seqV
open Go.Proofs.Tryz Go.TV.F
theorem W_laws_markIntSS (a:List (List Int)) (k:Int) (r':Int×(List (List Int))) (h0':laws_markIntSS a k=some r'):Fn X 133 [.one (.list true 1 (List.map (rL true 1 (rK .i64)) a)),.one (.sc (.int .i64 k))] [.one (.sc (.int .i64 r'.1))] [(0,.list true 1 (List.map (rL true 1 (rK .i64)) r'.2))]:=by
 have H':=And.intro t3 (And.intro t33 (And.intro t40 (And.intro qT (qK))))
 unfold laws_markIntSS at h0'
 refine Fn.start (fn:=f133) (N:=19) (res:=[.tmp 4]) rfl rfl rfl rfl rfl (by simp) ?_
 refine zU H' ?_
 refine zB ?_
 refine zA ?_
 refine ops H' ?_
 refine zE ?_
 refine zV (fun e'=>∃ k_1 a_1,laws_markIntSS_j1 k_1 a_1=some r'∧e'=⟨19,2,2,[(1,.pl (.one (.v (.sc (.int .i64 k_1)))))],[(0,.list true 1 (List.map (rL true 1 (rK .i64)) a_1))]⟩) ?_ ?_
 ·refine zB ?_
  refine zA ?_
  refine ops H' ?_
  refine zE ?_
  obtain ⟨p,hl',h0'⟩:=zbi h0'
  refine zI ?_
  refine zS (fun s' e'=>∃ k_2 i a_2,s'=(k_2,i,a_2)∧e'=⟨19,2,2,[(0,.pl (.one (.ref 0 []))),(1,.pl (.one (.v (.sc (.int .i64 k_2))))),(5,.pl (.one (.v (.sc (.int .i64 i)))))],[(0,.list true 1 (List.map (rL true 1 (rK .i64)) a_2))]⟩) hl' (shd [0,1,5] [(0,0)] 2 ⟨_,_,_,rfl,rfl⟩) ?_
  rintro s' y1' e' h1' ⟨k_2,i,a_2,rfl,rfl⟩
  replace h1':jS k_2 i a_2=some y1':=h1'
  unfold jS at h1'
  refine zB ?_
  refine zB ?_
  refine zA ?_
  refine ops H' ?_
  refine zE ?_
  refine zH (fun hc'=>?_) (fun hc'=>?_)
  ·replace h1':=(ifT hc').symm.trans h1'
   refine zM ?_
   refine zB ?_
   refine zI ?_
   refine zA ?_
   obtain ⟨x,hv',h1'⟩:=zbi h1'
   have H':=And.intro (zP hv') H'
   refine ops H' ?_
   obtain ⟨x17,hy',h1'⟩:=zbi h1'
   refine zR H' (fun _=>[0]) (W_laws_markIntS _ _ _ hy') ?_
   refine ops H' ?_
   refine zE ?_
   refine zA ?_
   refine ops H' ?_
   refine zE ?_
   obtain rfl:=zso h1'
   exact shd [0,1,5] [(0,0)] 2 ⟨_,rfl,_,_,_,rfl,rfl⟩
  ·replace h1':=(ifF hc').symm.trans h1'
   refine qJ ?_
   obtain rfl:=zso h1'
   refine ⟨_,rfl,fun hr'=>?_⟩
   subst hr'
   exact shd [1] [(0,0)] 2 ⟨_,_,h0',rfl⟩
 ·rintro e' ⟨k_1,a_1,h0',rfl⟩
  unfold laws_markIntSS_j1 at h0'
  refine zB ?_
  refine zA ?_
  refine ops H' ?_
  refine zE ?_
  refine zN ?_
  obtain rfl:=zso h0'
  exact zO H' rfl rfl
theorem W_laws_markBodyS (a:List T_impl_Body) (k:Int) (r':Int×(List T_impl_Body)) (h0':laws_markBodyS a k=some r'):Fn X 134 [.one (.list true 4 (List.map (zF true) a)),.one (.sc (.int .i64 k))] [.one (.sc (.int .i64 r'.1))] [(0,.list true 4 (List.map (zF true) r'.2))]:=by
 have H':=And.intro t3 (And.intro t9 (And.intro t34 (And.intro t40 (And.intro t73 (And.intro qL (qK))))))
 unfold laws_markBodyS at h0'
 refine Fn.start (fn:=f134) (N:=42) (res:=[.tmp 4]) rfl rfl rfl rfl rfl (by simp) ?_
 refine zU H' ?_
 refine zB ?_
 refine zA ?_
 refine ops H' ?_
 refine zE ?_
 refine zV (fun e'=>∃ k_1 a_1,laws_markBodyS_j1 k_1 a_1=some r'∧e'=⟨42,2,2,[(1,.pl (.one (.v (.sc (.int .i64 k_1)))))],[(0,.list true 4 (List.map (zF true) a_1))]⟩) ?_ ?_
 ·refine zB ?_
  refine zA ?_
  refine ops H' ?_
  refine zE ?_
  obtain ⟨p,hl',h0'⟩:=zbi h0'
  refine zI ?_
  refine zS (fun s' e'=>∃ k_2 i a_2,s'=(k_2,i,a_2)∧e'=⟨42,2,2,[(0,.pl (.one (.ref 0 []))),(1,.pl (.one (.v (.sc (.int .i64 k_2))))),(5,.pl (.one (.v (.sc (.int .i64 i)))))],[(0,.list true 4 (List.map (zF true) a_2))]⟩) hl' (shd [0,1,5] [(0,0)] 2 ⟨_,_,_,rfl,rfl⟩) ?_
  rintro s' y1' e' h1' ⟨k_2,i,a_2,rfl,rfl⟩
  replace h1':jN k_2 i a_2=some y1':=h1'
  unfold jN at h1'
  refine zB ?_
  refine zB ?_
  refine zA ?_
  refine ops H' ?_
  refine zE ?_
  refine zH (fun hc'=>?_) (fun hc'=>?_)
  ·replace h1':=(ifT hc').symm.trans h1'
   refine zM ?_
   refine zB ?_
   refine zI ?_
   refine zB ?_
   refine zA ?_
   refine ops H' ?_
   obtain ⟨x15,hy',h1'⟩:=zbi h1'
   refine zR H' (fun _=>[]) (W_laws_markText _ _ hy') ?_
   obtain ⟨x,hv',h1'⟩:=zbi h1'
   have H':=And.intro (zP hv') H'
   refine ops H' ?_
   refine zE ?_
   refine zB ?_
   refine zA ?_
   refine ops H' ?_
   refine zE ?_
   refine zB ?_
   refine zA ?_
   obtain ⟨x_1,hv',h1'⟩:=zbi h1'
   have H':=And.intro (zP hv') H'
   refine ops H' ?_
   refine zE ?_
   refine zB ?_
   refine zA ?_
   refine ops H' ?_
   refine zE ?_
   refine zB ?_
   refine zA ?_
   obtain ⟨x_2,hv',h1'⟩:=zbi h1'
   have H':=And.intro (zP hv') H'
   refine ops H' ?_
   refine zE ?_
   refine zB ?_
   refine zA ?_
   refine ops H' ?_
   refine zE ?_
   refine zA ?_
   obtain ⟨x_3,hv',h1'⟩:=zbi h1'
   have H':=And.intro (zP hv') H'
   refine ops H' ?_
   obtain ⟨x40,hy',h1'⟩:=zbi h1'
   refine zR H' (fun _=>[0]) (W_laws_markIntS _ _ _ hy') ?_
   refine ops H' ?_
   refine zE ?_
   refine zA ?_
   refine ops H' ?_
   refine zE ?_
   obtain rfl:=zso h1'
   exact shd [0,1,5] [(0,0)] 2 ⟨_,rfl,_,_,_,rfl,rfl⟩
  ·replace h1':=(ifF hc').symm.trans h1'
   refine qJ ?_
   obtain rfl:=zso h1'
   refine ⟨_,rfl,fun hr'=>?_⟩
   subst hr'
   exact shd [1] [(0,0)] 2 ⟨_,_,h0',rfl⟩
 ·rintro e' ⟨k_1,a_1,h0',rfl⟩
  unfold laws_markBodyS_j1 at h0'
  refine zB ?_
  refine zA ?_
  refine ops H' ?_
  refine zE ?_
  refine zN ?_
  obtain rfl:=zso h0'
  exact zO H' rfl rfl
theorem W_laws_markWeaveS (a:List T_impl_Weave) (k:Int) (r':Int×(List T_impl_Weave)) (h0':laws_markWeaveS a k=some r'):Fn X 74 [.one (.list true 2 (List.map (zD true) a)),.one (.sc (.int .i64 k))] [.one (.sc (.int .i64 r'.1))] [(0,.list true 2 (List.map (zD true) r'.2))]:=by
 have H':=And.intro t3 (And.intro t25 (And.intro t33 (And.intro t34 (And.intro t36 (And.intro qT (And.intro qL (And.intro qV (qK))))))))
 unfold laws_markWeaveS at h0'
 refine Fn.start (fn:=f74) (N:=27) (res:=[.tmp 4]) rfl rfl rfl rfl rfl (by simp) ?_
 refine zU H' ?_
 refine zB ?_
 refine zA ?_
 refine ops H' ?_
 refine zE ?_
 refine zV (fun e'=>∃ k_1 a_1,laws_markWeaveS_j1 k_1 a_1=some r'∧e'=⟨27,2,2,[(1,.pl (.one (.v (.sc (.int .i64 k_1)))))],[(0,.list true 2 (List.map (zD true) a_1))]⟩) ?_ ?_
 ·refine zB ?_
  refine zA ?_
  refine ops H' ?_
  refine zE ?_
  obtain ⟨p,hl',h0'⟩:=zbi h0'
  refine zI ?_
  refine zS (fun s' e'=>∃ k_2 i a_2,s'=(k_2,i,a_2)∧e'=⟨27,2,2,[(0,.pl (.one (.ref 0 []))),(1,.pl (.one (.v (.sc (.int .i64 k_2))))),(5,.pl (.one (.v (.sc (.int .i64 i)))))],[(0,.list true 2 (List.map (zD true) a_2))]⟩) hl' (shd [0,1,5] [(0,0)] 2 ⟨_,_,_,rfl,rfl⟩) ?_
  rintro s' y1' e' h1' ⟨k_2,i,a_2,rfl,rfl⟩
  replace h1':jK k_2 i a_2=some y1':=h1'
  unfold jK at h1'
  refine zB ?_
  refine zB ?_
  refine zA ?_
  refine ops H' ?_
  refine zE ?_
  refine zH (fun hc'=>?_) (fun hc'=>?_)
  ·replace h1':=(ifT hc').symm.trans h1'
   refine zM ?_
   refine zB ?_
   refine zI ?_
   refine zB ?_
   refine zA ?_
   obtain ⟨x,hv',h1'⟩:=zbi h1'
   have H':=And.intro (zP hv') H'
   refine ops H' ?_
   obtain ⟨x18,hy',h1'⟩:=zbi h1'
   refine zR H' (fun _=>[0]) (W_laws_markIntSS _ _ _ hy') ?_
   refine ops H' ?_
   refine zE ?_
   refine zA ?_
   obtain ⟨x_1,hv',h1'⟩:=zbi h1'
   have H':=And.intro (zP hv') H'
   refine ops H' ?_
   obtain ⟨x25,hy',h1'⟩:=zbi h1'
   refine zR H' (fun _=>[0]) (W_laws_markBodyS _ _ _ hy') ?_
   refine ops H' ?_
   refine zE ?_
   refine zA ?_
   refine ops H' ?_
   refine zE ?_
   obtain rfl:=zso h1'
   exact shd [0,1,5] [(0,0)] 2 ⟨_,rfl,_,_,_,rfl,rfl⟩
  ·replace h1':=(ifF hc').symm.trans h1'
   refine qJ ?_
   obtain rfl:=zso h1'
   refine ⟨_,rfl,fun hr'=>?_⟩
   subst hr'
   exact shd [1] [(0,0)] 2 ⟨_,_,h0',rfl⟩
 ·rintro e' ⟨k_1,a_1,h0',rfl⟩
  unfold laws_markWeaveS_j1 at h0'
  refine zB ?_
  refine zA ?_
  refine ops H' ?_
  refine zE ?_
  refine zN ?_
  obtain rfl:=zso h0'
  exact zO H' rfl rfl
theorem W_laws_markStore (a:T_impl_Store) (k:Int) (r':Int) (h0':laws_markStore a k=some r'):Fn X 19 [.agg [.list true 3 (List.map (zC true) a.Commits),.list true 2 (List.map (zD true) a.Files)],.one (.sc (.int .i64 k))] [.one (.sc (.int .i64 r'))] []:=by
 have H':=And.intro t24 (And.intro t25 (And.intro t27 (And.intro qT (And.intro qL (And.intro qI (And.intro zZ (And.intro qV (qK))))))))
 unfold laws_markStore at h0'
 refine Fn.start (fn:=f19) (N:=14) (res:=[.tmp 4]) rfl rfl rfl rfl rfl (by simp) ?_
 refine zU H' ?_
 refine zB ?_
 refine zA ?_
 refine ops H' ?_
 refine zE ?_
 refine zB ?_
 refine zA ?_
 refine ops H' ?_
 obtain ⟨x8,hy',h0'⟩:=zbi h0'
 refine zR H' (fun _=>[0]) (W_laws_markCommitS _ _ _ hy') ?_
 refine ops H' ?_
 refine zE ?_
 refine zB ?_
 refine zA ?_
 refine ops H' ?_
 obtain ⟨x12,hy',h0'⟩:=zbi h0'
 refine zR H' (fun _=>[0]) (W_laws_markWeaveS _ _ _ hy') ?_
 refine ops H' ?_
 refine zE ?_
 refine zB ?_
 refine zA ?_
 refine ops H' ?_
 refine zE ?_
 refine zN ?_
 obtain rfl:=zso h0'
 exact zO H' rfl rfl
theorem W_laws_heldIntS (a:List Int) (k:Int) (r':Int) (h0':laws_heldIntS a k=some r'):Fn X 21 [.one (.list false 1 (List.map (rK .i64) a)),.one (.sc (.int .i64 k))] [.one (.sc (.int .i64 r'))] []:=by
 have H':=And.intro t3 (And.intro t40 (qK))
 unfold laws_heldIntS at h0'
 refine Fn.start (fn:=f21) (N:=21) (res:=[.tmp 4]) rfl rfl rfl rfl rfl (by simp) ?_
 refine zU H' ?_
 refine zB ?_
 refine zA ?_
 refine ops H' ?_
 refine zE ?_
 refine zV (fun e'=>∃ k_1,laws_heldIntS_j1 k_1=some r'∧e'=⟨21,2,2,[(1,.pl (.one (.v (.sc (.int .i64 k_1)))))],[]⟩) ?_ ?_
 ·refine zB ?_
  refine zA ?_
  refine ops H' ?_
  refine zE ?_
  obtain ⟨p,hl',h0'⟩:=zbi h0'
  refine zI ?_
  refine zS (fun s' e'=>∃ k_2 i,s'=(k_2,i)∧e'=⟨21,2,2,[(0,.pl (.one (.v (.list false 1 (List.map (rK .i64) a))))),(1,.pl (.one (.v (.sc (.int .i64 k_2))))),(5,.pl (.one (.v (.sc (.int .i64 i)))))],[]⟩) hl' (shd [0,1,5] [] 2 ⟨_,_,rfl,rfl⟩) ?_
  rintro s' y1' e' h1' ⟨k_2,i,rfl,rfl⟩
  replace h1':laws_heldIntS_l1 a k_2 i=some y1':=h1'
  unfold laws_heldIntS_l1 at h1'
  refine zB ?_
  refine zB ?_
  refine zA ?_
  refine ops H' ?_
  refine zE ?_
  refine zH (fun hc'=>?_) (fun hc'=>?_)
  ·replace h1':=(ifT hc').symm.trans h1'
   refine zM ?_
   refine zB ?_
   refine zI ?_
   refine zB ?_
   refine zB ?_
   refine zA ?_
   obtain ⟨x,hv',h1'⟩:=zbi h1'
   have H':=And.intro (zP hv') H'
   refine ops H' ?_
   refine zE ?_
   refine zH (fun hc'=>?_) (fun hc'=>?_)
   ·replace h1':=(ifT hc').symm.trans h1'
    refine zB ?_
    refine zA ?_
    refine ops H' ?_
    refine zE ?_
    refine zN ?_
    obtain rfl:=zso h1'
    refine ⟨_,rfl,fun hr'=>?_⟩
    subst hr'
    obtain rfl:=zso h0'
    exact zO H' rfl rfl
   ·replace h1':=(ifF hc').symm.trans h1'
    refine zM ?_
    refine zA ?_
    refine ops H' ?_
    refine zE ?_
    refine zA ?_
    refine ops H' ?_
    refine zE ?_
    obtain rfl:=zso h1'
    exact shd [0,1,5] [] 2 ⟨_,rfl,_,_,rfl,rfl⟩
  ·replace h1':=(ifF hc').symm.trans h1'
   refine qJ ?_
   obtain rfl:=zso h1'
   refine ⟨_,rfl,fun hr'=>?_⟩
   subst hr'
   exact shd [1] [] 2 ⟨_,h0',rfl⟩
 ·rintro e' ⟨k_1,h0',rfl⟩
  unfold laws_heldIntS_j1 at h0'
  refine zB ?_
  refine zA ?_
  refine ops H' ?_
  refine zE ?_
  refine zN ?_
  obtain rfl:=zso h0'
  exact zO H' rfl rfl
theorem W_laws_FnExactFileLog (aS:T_laws_Store) (aPath:ByteArray) (aC:Int) (r':Bool) (h0':laws_FnExactFileLog aS aPath aC=some r'):Fn X 4 [.agg [.list false 3 (List.map (zK false) aS.Commits),.list false 2 (List.map (zL false) aS.Files)],.one (.sc (.string aPath)),.one (.sc (.int .i64 aC))] [.one (.sc (.bool r'))] []:=by
 have H':=And.intro t3 (And.intro t9 (And.intro t27 (And.intro t51 (And.intro qT (And.intro qL (And.intro qI (And.intro zZ (And.intro qV (And.intro R_T_laws_Body (And.intro R_T_laws_Commit (And.intro R_T_laws_Name (And.intro R_T_laws_Weave (qK)))))))))))))
 unfold laws_FnExactFileLog at h0'
 refine Fn.start (fn:=f4) (N:=109) (res:=[.tmp 6]) rfl rfl rfl rfl rfl (by simp) ?_
 refine zU H' ?_
 refine zB ?_
 refine zA ?_
 refine ops H' ?_
 refine zE ?_
 refine zB ?_
 refine zB ?_
 refine zA ?_
 refine ops H' ?_
 refine zE ?_
 refine zH (fun hc'=>?_) (fun hc'=>?_)
 ·replace h0':=(ifT hc').symm.trans h0'
  refine zB ?_
  refine zA ?_
  refine ops H' ?_
  refine zE ?_
  refine zN ?_
  obtain rfl:=zso h0'
  exact zO H' rfl rfl
 ·replace h0':=(ifF hc').symm.trans h0'
  refine zM ?_
  refine zB ?_
  refine zA ?_
  refine ops H' ?_
  refine zE ?_
  refine zB ?_
  refine zA ?_
  refine ops H' ?_
  obtain ⟨x23,hy',h0'⟩:=zbi h0'
  refine zR H' (fun _=>[]) (W_laws_szStore _ _ _ hy') ?_
  refine ops H' ?_
  refine zE ?_
  refine zB ?_
  refine zB ?_
  refine zA ?_
  refine ops H' ?_
  refine zE ?_
  refine zH (fun hc'=>?_) (fun hc'=>?_)
  ·replace h0':=(ifT hc').symm.trans h0'
   refine zB ?_
   refine zA ?_
   refine ops H' ?_
   refine zE ?_
   refine zN ?_
   obtain rfl:=zso h0'
   exact zO H' rfl rfl
  ·replace h0':=(ifF hc').symm.trans h0'
   refine zM ?_
   refine zB ?_
   refine zA ?_
   refine ops H' ?_
   obtain ⟨x28,hy',h0'⟩:=zbi h0'
   refine zR H' (fun _=>[]) (W_laws_toStore _ _ hy') ?_
   refine ops H' ?_
   obtain ⟨x31,hy',h0'⟩:=zbi h0'
   refine zR H' (fun _=>[]) (W_spec_FileLog _ _ _ _ hy') ?_
   refine ops H' ?_
   refine zE ?_
   refine zB ?_
   refine zA ?_
   refine ops H' ?_
   obtain ⟨x35,hy',h0'⟩:=zbi h0'
   refine zR H' (fun _=>[]) (W_laws_toStore _ _ hy') ?_
   refine ops H' ?_
   refine zE ?_
   refine zB ?_
   refine zA ?_
   refine ops H' ?_
   obtain ⟨x40,hy',h0'⟩:=zbi h0'
   refine zR H' (fun _=>[]) (W_impl_FileLog _ _ _ _ hy') ?_
   refine ops H' ?_
   refine zE ?_
   refine zB ?_
   refine zB ?_
   refine zA ?_
   refine ops H' ?_
   obtain ⟨x45,hy',h0'⟩:=zbi h0'
   refine zR H' (fun _=>[]) (W_laws_eqIntS _ _ _ hy') ?_
   refine ops H' ?_
   obtain ⟨b,gh0',h0'⟩:=zbi h0'
   refine qC 4 (fun e'=>e'=⟨109,4,8,[(1,.pl (.one (.v (.sc (.string aPath))))),(2,.pl (.one (.v (.sc (.int .i64 aC))))),(3,.pl (.one (.ref 4 []))),(8,.pl (.one (.ref 5 []))),(9,.pl (.one (.v (.sc (.int .i64 x31.2))))),(10,.pl (.one (.ref 6 []))),(11,.pl (.one (.ref 7 []))),(12,.pl (.one (.v (.sc (.int .i64 x40.2))))),(51,.pl (.one (.v (.sc (.bool b)))))],[(4,.box true [.list false 3 (List.map (zK false) aS.Commits),.list false 2 (List.map (zL false) aS.Files)]),(5,.list true 1 (List.map (rK .i64) x31.1)),(6,.box true [.list true 3 (List.map (zC true) x35.Commits),.list true 2 (List.map (zD true) x35.Files)]),(7,.list true 1 (List.map (rK .i64) x40.1))]⟩) ?_ ?_
   ·simp only [List.take_succ_cons,List.take_zero]
    refine qE (fun hc'=>?_) (fun hc'=>?_)
    ·replace gh0':=(ifF hc').symm.trans gh0'
     refine ops H' ?_
     obtain rfl:=zso gh0'
     refine zG ?_
     exact ⟨rfl,shd [1,2,3,8,9,10,11,12,51] [(4,4),(8,5),(12,6),(13,7)] 8 rfl⟩
    ·replace gh0':=(ifT hc').symm.trans gh0'
     refine ops H' ?_
     obtain rfl:=zso gh0'
     refine zG ?_
     exact ⟨rfl,shd [1,2,3,8,9,10,11,12,51] [(4,4),(8,5),(12,6),(13,7)] 8 rfl⟩
   ·rintro e' rfl
    simp only [List.drop_succ_cons,List.drop_zero]
    refine zE ?_
    refine zH (fun hc'=>?_) (fun hc'=>?_)
    ·replace h0':=(ifT hc').symm.trans h0'
     refine zB ?_
     refine zA ?_
     refine ops H' ?_
     refine zE ?_
     refine zN ?_
     obtain rfl:=zso h0'
     exact zO H' rfl rfl
    ·replace h0':=(ifF hc').symm.trans h0'
     refine zM ?_
     refine zB ?_
     refine zB ?_
     obtain ⟨x54,hy_x54,h0'⟩:=zbi h0'
     obtain ⟨x55,hy_x55,h0'⟩:=zbi h0'
     refine wpV_J (fun e'=>e'=⟨109,4,8,[(1,.pl (.one (.v (.sc (.string aPath))))),(2,.pl (.one (.v (.sc (.int .i64 aC))))),(3,.pl (.one (.ref 4 []))),(8,.pl (.one (.ref 5 []))),(9,.pl (.one (.v (.sc (.int .i64 x31.2))))),(10,.pl (.one (.ref 6 []))),(11,.pl (.one (.ref 7 []))),(12,.pl (.one (.v (.sc (.int .i64 x40.2))))),(56,.pl (.one (.v (.sc (.bool (!x55))))))],[(4,.box true [.list false 3 (List.map (zK false) aS.Commits),.list false 2 (List.map (zL false) aS.Files)]),(5,.list true 1 (List.map (rK .i64) x31.1)),(6,.box true [.list true 3 (List.map (zC true) x35.Commits),.list true 2 (List.map (zD true) x35.Files)]),(7,.list true 1 (List.map (rK .i64) x40.1))]⟩) ?_ ?_
     ·refine regAnyF [(1,53,.pl (.agg [.v (.list false 3 (List.map (zK false) aS.Commits)),.v (.list false 2 (List.map (zL false) aS.Files))])),(3,55,.pl (.one (.v (.sc (.bool x55))))),(4,56,.pl (.one (.v (.sc (.bool (!x55))))))] ?_
      refine (?_:anyF X ?o0 _ _ ?P0 _)
      have d0':anyF X ?o0 [0,1,2] [(3,55,.pl (.one (.v (.sc (.bool x55))))),(4,56,.pl (.one (.v (.sc (.bool (!x55))))))] ?P0 ⟨109,4,10,[(1,.pl (.one (.v (.sc (.string aPath))))),(2,.pl (.one (.v (.sc (.int .i64 aC))))),(3,.pl (.one (.ref 4 []))),(8,.pl (.one (.ref 5 []))),(9,.pl (.one (.v (.sc (.int .i64 x31.2))))),(10,.pl (.one (.ref 6 []))),(11,.pl (.one (.ref 7 []))),(12,.pl (.one (.v (.sc (.int .i64 x40.2))))),(52,.pl (.agg [.ref 6 [(0,0,0)],.ref 6 [(0,0,1)]])),(54,.pl (.agg [.ref 8 [],.ref 9 []]))],[(4,.box true [.list false 3 (List.map (zK false) aS.Commits),.list false 2 (List.map (zL false) aS.Files)]),(5,.list true 1 (List.map (rK .i64) x31.1)),(6,.box true [.list true 3 (List.map (zC true) x35.Commits),.list true 2 (List.map (zD true) x35.Files)]),(7,.list true 1 (List.map (rK .i64) x40.1)),(8,.list true 3 (List.map (zC true) x54.Commits)),(9,.list true 2 (List.map (zD true) x54.Files))]⟩:=by
       refine fend (e2:=⟨109,4,10,[(55,.pl (.one (.v (.sc (.bool x55))))),(56,.pl (.one (.v (.sc (.bool (!x55)))))),(1,.pl (.one (.v (.sc (.string aPath))))),(2,.pl (.one (.v (.sc (.int .i64 aC))))),(3,.pl (.one (.ref 4 []))),(8,.pl (.one (.ref 5 []))),(9,.pl (.one (.v (.sc (.int .i64 x31.2))))),(10,.pl (.one (.ref 6 []))),(11,.pl (.one (.ref 7 []))),(12,.pl (.one (.v (.sc (.int .i64 x40.2))))),(52,.pl (.agg [.ref 6 [(0,0,0)],.ref 6 [(0,0,1)]])),(54,.pl (.agg [.ref 8 [],.ref 9 []]))],[(4,.box true [.list false 3 (List.map (zK false) aS.Commits),.list false 2 (List.map (zL false) aS.Files)]),(5,.list true 1 (List.map (rK .i64) x31.1)),(6,.box true [.list true 3 (List.map (zC true) x35.Commits),.list true 2 (List.map (zD true) x35.Files)]),(7,.list true 1 (List.map (rK .i64) x40.1)),(8,.list true 3 (List.map (zC true) x54.Commits)),(9,.list true 2 (List.map (zD true) x54.Files))]⟩) [3,4] [.q 3 55 (.pl (.one (.v (.sc (.bool x55))))) [],.q 4 56 (.pl (.one (.v (.sc (.bool (!x55)))))) [3]] [(3,55),(4,56)] [(3,true,[],[]),(4,true,[3],[])] ⟨?_,?_,trivial⟩ ⟨rfl,shd [1,2,3,8,9,10,11,12,56] [(4,4),(5,5),(6,6),(7,7)] 8 rfl⟩
       ·refine qB 0 ⟨109,4,10,[(1,.pl (.one (.v (.sc (.string aPath))))),(2,.pl (.one (.v (.sc (.int .i64 aC))))),(3,.pl (.one (.ref 4 []))),(8,.pl (.one (.ref 5 []))),(9,.pl (.one (.v (.sc (.int .i64 x31.2))))),(10,.pl (.one (.ref 6 []))),(11,.pl (.one (.ref 7 []))),(12,.pl (.one (.v (.sc (.int .i64 x40.2))))),(52,.pl (.agg [.ref 6 [(0,0,0)],.ref 6 [(0,0,1)]])),(54,.pl (.agg [.ref 8 [],.ref 9 []]))],[(4,.box true [.list false 3 (List.map (zK false) aS.Commits),.list false 2 (List.map (zL false) aS.Files)]),(5,.list true 1 (List.map (rK .i64) x31.1)),(6,.box true [.list true 3 (List.map (zC true) x35.Commits),.list true 2 (List.map (zD true) x35.Files)]),(7,.list true 1 (List.map (rK .i64) x40.1)),(8,.list true 3 (List.map (zC true) x54.Commits)),(9,.list true 2 (List.map (zD true) x54.Files))]⟩ ?_
        refine zR H' (fun _=>[]) (W_laws_eqStore _ _ _ hy_x55) ?_
        refine zG ⟨rfl,shd [55,1,2,3,8,9,10,11,12,52,54] [(4,4),(5,5),(6,6),(7,7),(8,8),(9,9)] 10 rfl⟩
       ·refine qB 1 ⟨109,4,10,[(55,.pl (.one (.v (.sc (.bool x55))))),(1,.pl (.one (.v (.sc (.string aPath))))),(2,.pl (.one (.v (.sc (.int .i64 aC))))),(3,.pl (.one (.ref 4 []))),(8,.pl (.one (.ref 5 []))),(9,.pl (.one (.v (.sc (.int .i64 x31.2))))),(10,.pl (.one (.ref 6 []))),(11,.pl (.one (.ref 7 []))),(12,.pl (.one (.v (.sc (.int .i64 x40.2))))),(52,.pl (.agg [.ref 6 [(0,0,0)],.ref 6 [(0,0,1)]])),(54,.pl (.agg [.ref 8 [],.ref 9 []]))],[(4,.box true [.list false 3 (List.map (zK false) aS.Commits),.list false 2 (List.map (zL false) aS.Files)]),(5,.list true 1 (List.map (rK .i64) x31.1)),(6,.box true [.list true 3 (List.map (zC true) x35.Commits),.list true 2 (List.map (zD true) x35.Files)]),(7,.list true 1 (List.map (rK .i64) x40.1)),(8,.list true 3 (List.map (zC true) x54.Commits)),(9,.list true 2 (List.map (zD true) x54.Files))]⟩ ?_
        refine ops H' ?_
        refine zG ⟨rfl,shd [56,1,2,3,8,9,10,11,12,52,54] [(4,4),(5,5),(6,6),(7,7),(8,8),(9,9)] 10 rfl⟩
      have d1':anyF X ?o0 [0] [(1,53,.pl (.agg [.v (.list false 3 (List.map (zK false) aS.Commits)),.v (.list false 2 (List.map (zL false) aS.Files))])),(3,55,.pl (.one (.v (.sc (.bool x55))))),(4,56,.pl (.one (.v (.sc (.bool (!x55))))))] ?P0 ⟨109,4,8,[(1,.pl (.one (.v (.sc (.string aPath))))),(2,.pl (.one (.v (.sc (.int .i64 aC))))),(3,.pl (.one (.ref 4 []))),(8,.pl (.one (.ref 5 []))),(9,.pl (.one (.v (.sc (.int .i64 x31.2))))),(10,.pl (.one (.ref 6 []))),(11,.pl (.one (.ref 7 []))),(12,.pl (.one (.v (.sc (.int .i64 x40.2))))),(52,.pl (.agg [.ref 6 [(0,0,0)],.ref 6 [(0,0,1)]]))],[(4,.box true [.list false 3 (List.map (zK false) aS.Commits),.list false 2 (List.map (zL false) aS.Files)]),(5,.list true 1 (List.map (rK .i64) x31.1)),(6,.box true [.list true 3 (List.map (zC true) x35.Commits),.list true 2 (List.map (zD true) x35.Files)]),(7,.list true 1 (List.map (rK .i64) x40.1))]⟩:=by
       refine fnode [1] [.q 1 53 (.pl (.agg [.v (.list false 3 (List.map (zK false) aS.Commits)),.v (.list false 2 (List.map (zL false) aS.Files))])) [],.m 2 [1] [0,1,2] [(3,55,.pl (.one (.v (.sc (.bool x55))))),(4,56,.pl (.one (.v (.sc (.bool (!x55))))))]] [(1,53),(3,55),(4,56)] [(1,true,[],[]),(2,false,[1],[0,1,2])] ⟨?_,?_,trivial⟩
       ·refine qB 0 ⟨109,4,8,[(1,.pl (.one (.v (.sc (.string aPath))))),(2,.pl (.one (.v (.sc (.int .i64 aC))))),(3,.pl (.one (.ref 4 []))),(8,.pl (.one (.ref 5 []))),(9,.pl (.one (.v (.sc (.int .i64 x31.2))))),(10,.pl (.one (.ref 6 []))),(11,.pl (.one (.ref 7 []))),(12,.pl (.one (.v (.sc (.int .i64 x40.2))))),(52,.pl (.agg [.ref 6 [(0,0,0)],.ref 6 [(0,0,1)]]))],[(4,.box true [.list false 3 (List.map (zK false) aS.Commits),.list false 2 (List.map (zL false) aS.Files)]),(5,.list true 1 (List.map (rK .i64) x31.1)),(6,.box true [.list true 3 (List.map (zC true) x35.Commits),.list true 2 (List.map (zD true) x35.Files)]),(7,.list true 1 (List.map (rK .i64) x40.1))]⟩ ?_
        refine ops H' ?_
        refine zG ⟨rfl,shd [53,1,2,3,8,9,10,11,12,52] [(4,4),(5,5),(6,6),(7,7)] 8 rfl⟩
       ·refine obMx ⟨109,4,8,[(53,.pl (.agg [.v (.list false 3 (List.map (zK false) aS.Commits)),.v (.list false 2 (List.map (zL false) aS.Files))])),(1,.pl (.one (.v (.sc (.string aPath))))),(2,.pl (.one (.v (.sc (.int .i64 aC))))),(3,.pl (.one (.ref 4 []))),(8,.pl (.one (.ref 5 []))),(9,.pl (.one (.v (.sc (.int .i64 x31.2))))),(10,.pl (.one (.ref 6 []))),(11,.pl (.one (.ref 7 []))),(12,.pl (.one (.v (.sc (.int .i64 x40.2))))),(52,.pl (.agg [.ref 6 [(0,0,0)],.ref 6 [(0,0,1)]]))],[(4,.box true [.list false 3 (List.map (zK false) aS.Commits),.list false 2 (List.map (zL false) aS.Files)]),(5,.list true 1 (List.map (rK .i64) x31.1)),(6,.box true [.list true 3 (List.map (zC true) x35.Commits),.list true 2 (List.map (zD true) x35.Files)]),(7,.list true 1 (List.map (rK .i64) x40.1))]⟩ ?_
        refine zR H' (fun _=>[]) (W_laws_toStore _ _ hy_x54) ?_
        refine zG ⟨rfl,.inl ⟨rfl,?_⟩⟩
        exact qN [1,2,3,8,9,10,11,12,52,54] [(4,4),(5,5),(6,6),(7,7),(8,8),(9,9)] 10 d0'
      have d2':anyF X ?o0 [1,2] [(3,55,.pl (.one (.v (.sc (.bool x55))))),(4,56,.pl (.one (.v (.sc (.bool (!x55))))))] ?P0 ⟨109,4,10,[(1,.pl (.one (.v (.sc (.string aPath))))),(2,.pl (.one (.v (.sc (.int .i64 aC))))),(3,.pl (.one (.ref 4 []))),(8,.pl (.one (.ref 5 []))),(9,.pl (.one (.v (.sc (.int .i64 x31.2))))),(10,.pl (.one (.ref 6 []))),(11,.pl (.one (.ref 7 []))),(12,.pl (.one (.v (.sc (.int .i64 x40.2))))),(54,.pl (.agg [.ref 8 [],.ref 9 []]))],[(4,.box true [.list false 3 (List.map (zK false) aS.Commits),.list false 2 (List.map (zL false) aS.Files)]),(5,.list true 1 (List.map (rK .i64) x31.1)),(6,.box true [.list true 3 (List.map (zC true) x35.Commits),.list true 2 (List.map (zD true) x35.Files)]),(7,.list true 1 (List.map (rK .i64) x40.1)),(8,.list true 3 (List.map (zC true) x54.Commits)),(9,.list true 2 (List.map (zD true) x54.Files))]⟩:=by
       refine fnode [] [.m 0 [] [0,1,2] [(3,55,.pl (.one (.v (.sc (.bool x55))))),(4,56,.pl (.one (.v (.sc (.bool (!x55))))))]] [(3,55),(4,56)] [(0,false,[],[0,1,2])] ⟨?_,trivial⟩
       ·refine obMx ⟨109,4,10,[(1,.pl (.one (.v (.sc (.string aPath))))),(2,.pl (.one (.v (.sc (.int .i64 aC))))),(3,.pl (.one (.ref 4 []))),(8,.pl (.one (.ref 5 []))),(9,.pl (.one (.v (.sc (.int .i64 x31.2))))),(10,.pl (.one (.ref 6 []))),(11,.pl (.one (.ref 7 []))),(12,.pl (.one (.v (.sc (.int .i64 x40.2))))),(54,.pl (.agg [.ref 8 [],.ref 9 []]))],[(4,.box true [.list false 3 (List.map (zK false) aS.Commits),.list false 2 (List.map (zL false) aS.Files)]),(5,.list true 1 (List.map (rK .i64) x31.1)),(6,.box true [.list true 3 (List.map (zC true) x35.Commits),.list true 2 (List.map (zD true) x35.Files)]),(7,.list true 1 (List.map (rK .i64) x40.1)),(8,.list true 3 (List.map (zC true) x54.Commits)),(9,.list true 2 (List.map (zD true) x54.Files))]⟩ ?_
        refine ops H' ?_
        refine zG ⟨rfl,.inl ⟨rfl,?_⟩⟩
        exact qN [1,2,3,8,9,10,11,12,52,54] [(4,4),(5,5),(6,6),(7,7),(8,8),(9,9)] 10 d0'
      have d3':anyF X ?o0 [] [(1,53,.pl (.agg [.v (.list false 3 (List.map (zK false) aS.Commits)),.v (.list false 2 (List.map (zL false) aS.Files))])),(3,55,.pl (.one (.v (.sc (.bool x55))))),(4,56,.pl (.one (.v (.sc (.bool (!x55))))))] ?P0 ⟨109,4,8,[(1,.pl (.one (.v (.sc (.string aPath))))),(2,.pl (.one (.v (.sc (.int .i64 aC))))),(3,.pl (.one (.ref 4 []))),(8,.pl (.one (.ref 5 []))),(9,.pl (.one (.v (.sc (.int .i64 x31.2))))),(10,.pl (.one (.ref 6 []))),(11,.pl (.one (.ref 7 []))),(12,.pl (.one (.v (.sc (.int .i64 x40.2)))))],[(4,.box true [.list false 3 (List.map (zK false) aS.Commits),.list false 2 (List.map (zL false) aS.Files)]),(5,.list true 1 (List.map (rK .i64) x31.1)),(6,.box true [.list true 3 (List.map (zC true) x35.Commits),.list true 2 (List.map (zD true) x35.Files)]),(7,.list true 1 (List.map (rK .i64) x40.1))]⟩:=by
       refine fnode [1] [.q 1 53 (.pl (.agg [.v (.list false 3 (List.map (zK false) aS.Commits)),.v (.list false 2 (List.map (zL false) aS.Files))])) [],.m 0 [] [0] [(1,53,.pl (.agg [.v (.list false 3 (List.map (zK false) aS.Commits)),.v (.list false 2 (List.map (zL false) aS.Files))])),(3,55,.pl (.one (.v (.sc (.bool x55))))),(4,56,.pl (.one (.v (.sc (.bool (!x55))))))],.m 2 [1] [1,2] [(3,55,.pl (.one (.v (.sc (.bool x55))))),(4,56,.pl (.one (.v (.sc (.bool (!x55))))))]] [(1,53),(3,55),(4,56)] [(1,true,[],[]),(0,false,[],[0]),(2,false,[1],[1,2])] ⟨?_,?_,?_,trivial⟩
       ·refine qB 0 ⟨109,4,8,[(1,.pl (.one (.v (.sc (.string aPath))))),(2,.pl (.one (.v (.sc (.int .i64 aC))))),(3,.pl (.one (.ref 4 []))),(8,.pl (.one (.ref 5 []))),(9,.pl (.one (.v (.sc (.int .i64 x31.2))))),(10,.pl (.one (.ref 6 []))),(11,.pl (.one (.ref 7 []))),(12,.pl (.one (.v (.sc (.int .i64 x40.2)))))],[(4,.box true [.list false 3 (List.map (zK false) aS.Commits),.list false 2 (List.map (zL false) aS.Files)]),(5,.list true 1 (List.map (rK .i64) x31.1)),(6,.box true [.list true 3 (List.map (zC true) x35.Commits),.list true 2 (List.map (zD true) x35.Files)]),(7,.list true 1 (List.map (rK .i64) x40.1))]⟩ ?_
        refine ops H' ?_
        refine zG ⟨rfl,shd [53,1,2,3,8,9,10,11,12] [(4,4),(5,5),(6,6),(7,7)] 8 rfl⟩
       ·refine obMx ⟨109,4,8,[(1,.pl (.one (.v (.sc (.string aPath))))),(2,.pl (.one (.v (.sc (.int .i64 aC))))),(3,.pl (.one (.ref 4 []))),(8,.pl (.one (.ref 5 []))),(9,.pl (.one (.v (.sc (.int .i64 x31.2))))),(10,.pl (.one (.ref 6 []))),(11,.pl (.one (.ref 7 []))),(12,.pl (.one (.v (.sc (.int .i64 x40.2)))))],[(4,.box true [.list false 3 (List.map (zK false) aS.Commits),.list false 2 (List.map (zL false) aS.Files)]),(5,.list true 1 (List.map (rK .i64) x31.1)),(6,.box true [.list true 3 (List.map (zC true) x35.Commits),.list true 2 (List.map (zD true) x35.Files)]),(7,.list true 1 (List.map (rK .i64) x40.1))]⟩ ?_
        refine ops H' ?_
        refine zG ⟨rfl,.inl ⟨rfl,?_⟩⟩
        exact qN [1,2,3,8,9,10,11,12,52] [(4,4),(5,5),(6,6),(7,7)] 8 d1'
       ·refine obMx ⟨109,4,8,[(53,.pl (.agg [.v (.list false 3 (List.map (zK false) aS.Commits)),.v (.list false 2 (List.map (zL false) aS.Files))])),(1,.pl (.one (.v (.sc (.string aPath))))),(2,.pl (.one (.v (.sc (.int .i64 aC))))),(3,.pl (.one (.ref 4 []))),(8,.pl (.one (.ref 5 []))),(9,.pl (.one (.v (.sc (.int .i64 x31.2))))),(10,.pl (.one (.ref 6 []))),(11,.pl (.one (.ref 7 []))),(12,.pl (.one (.v (.sc (.int .i64 x40.2)))))],[(4,.box true [.list false 3 (List.map (zK false) aS.Commits),.list false 2 (List.map (zL false) aS.Files)]),(5,.list true 1 (List.map (rK .i64) x31.1)),(6,.box true [.list true 3 (List.map (zC true) x35.Commits),.list true 2 (List.map (zD true) x35.Files)]),(7,.list true 1 (List.map (rK .i64) x40.1))]⟩ ?_
        refine zR H' (fun _=>[]) (W_laws_toStore _ _ hy_x54) ?_
        refine zG ⟨rfl,.inl ⟨rfl,?_⟩⟩
        exact qN [1,2,3,8,9,10,11,12,54] [(4,4),(5,5),(6,6),(7,7),(8,8),(9,9)] 10 d2'
      exact qN [1,2,3,8,9,10,11,12] [(4,4),(5,5),(6,6),(7,7)] 8 d3'
     ·rintro e' rfl
      refine contN ?_
      refine zH (fun hc'=>?_) (fun hc'=>?_)
      ·replace h0':=(ifT hc').symm.trans h0'
       refine zB ?_
       refine zA ?_
       refine ops H' ?_
       refine zE ?_
       refine zN ?_
       obtain rfl:=zso h0'
       exact zO H' rfl rfl
      ·replace h0':=(ifF hc').symm.trans h0'
       refine zM ?_
       refine zB ?_
       refine zA ?_
       refine ops H' ?_
       refine zE ?_
       refine zB ?_
       refine zA ?_
       refine ops H' ?_
       obtain ⟨x59,hy',h0'⟩:=zbi h0'
       refine zR H' (fun _=>[0,1]) (W_laws_markStore _ _ _ hy') ?_
       refine ops H' ?_
       refine zE ?_
       refine zB ?_
       refine zB ?_
       refine zA ?_
       refine ops H' ?_
       obtain ⟨b_1,gh0',h0'⟩:=zbi h0'
       refine qC 5 (fun e'=>e'=⟨109,4,7,[(1,.pl (.one (.v (.sc (.string aPath))))),(2,.pl (.one (.v (.sc (.int .i64 aC))))),(3,.pl (.one (.ref 4 []))),(8,.pl (.one (.ref 5 []))),(9,.pl (.one (.v (.sc (.int .i64 x31.2))))),(11,.pl (.one (.ref 6 []))),(12,.pl (.one (.v (.sc (.int .i64 x40.2))))),(67,.pl (.one (.v (.sc (.bool b_1)))))],[(4,.box true [.list false 3 (List.map (zK false) aS.Commits),.list false 2 (List.map (zL false) aS.Files)]),(5,.list true 1 (List.map (rK .i64) x31.1)),(6,.list true 1 (List.map (rK .i64) x40.1))]⟩) ?_ ?_
       ·simp only [List.take_succ_cons,List.take_zero]
        refine qE (fun hc'=>?_) (fun hc'=>?_)
        ·replace gh0':=(ifF hc').symm.trans gh0'
         refine ops H' ?_
         obtain ⟨x65,hy',gh0'⟩:=zbi gh0'
         refine zR H' (fun _=>[]) (W_laws_eqIntS _ _ _ hy') ?_
         refine ops H' ?_
         obtain rfl:=zso gh0'
         refine zG ?_
         exact ⟨rfl,shd [1,2,3,8,9,11,12,67] [(4,4),(5,5),(7,6)] 7 rfl⟩
        ·replace gh0':=(ifT hc').symm.trans gh0'
         refine ops H' ?_
         obtain rfl:=zso gh0'
         refine zG ?_
         exact ⟨rfl,shd [1,2,3,8,9,11,12,67] [(4,4),(5,5),(7,6)] 7 rfl⟩
       ·rintro e' rfl
        simp only [List.drop_succ_cons,List.drop_zero]
        refine ops H' ?_
        obtain ⟨b_2,gh0',h0'⟩:=zbi h0'
        refine qC 4 (fun e'=>e'=⟨109,4,7,[(1,.pl (.one (.v (.sc (.string aPath))))),(2,.pl (.one (.v (.sc (.int .i64 aC))))),(3,.pl (.one (.ref 4 []))),(8,.pl (.one (.ref 5 []))),(9,.pl (.one (.v (.sc (.int .i64 x31.2))))),(11,.pl (.one (.ref 6 []))),(72,.pl (.one (.v (.sc (.bool b_2)))))],[(4,.box true [.list false 3 (List.map (zK false) aS.Commits),.list false 2 (List.map (zL false) aS.Files)]),(5,.list true 1 (List.map (rK .i64) x31.1)),(6,.list true 1 (List.map (rK .i64) x40.1))]⟩) ?_ ?_
        ·simp only [List.take_succ_cons,List.take_zero]
         refine qE (fun hc'=>?_) (fun hc'=>?_)
         ·replace gh0':=(ifF hc').symm.trans gh0'
          refine ops H' ?_
          obtain rfl:=zso gh0'
          refine zG ?_
          exact ⟨rfl,shd [1,2,3,8,9,11,72] [(4,4),(5,5),(6,6)] 7 rfl⟩
         ·replace gh0':=(ifT hc').symm.trans gh0'
          refine ops H' ?_
          obtain rfl:=zso gh0'
          refine zG ?_
          exact ⟨rfl,shd [1,2,3,8,9,11,72] [(4,4),(5,5),(6,6)] 7 rfl⟩
        ·rintro e' rfl
         simp only [List.drop_succ_cons,List.drop_zero]
         refine zE ?_
         refine zH (fun hc'=>?_) (fun hc'=>?_)
         ·replace h0':=(ifT hc').symm.trans h0'
          refine zB ?_
          refine zA ?_
          refine ops H' ?_
          refine zE ?_
          refine zN ?_
          obtain rfl:=zso h0'
          exact zO H' rfl rfl
         ·replace h0':=(ifF hc').symm.trans h0'
          refine zM ?_
          refine zB ?_
          refine zA ?_
          refine ops H' ?_
          refine zE ?_
          refine zB ?_
          refine zA ?_
          refine ops H' ?_
          obtain ⟨x75,hy',h0'⟩:=zbi h0'
          refine zR H' (fun _=>[0]) (W_laws_markIntS _ _ _ hy') ?_
          refine ops H' ?_
          refine zE ?_
          refine zB ?_
          refine zA ?_
          refine ops H' ?_
          refine zE ?_
          refine zB ?_
          refine zA ?_
          refine ops H' ?_
          obtain ⟨x78,hy',h0'⟩:=zbi h0'
          refine zR H' (fun _=>[]) (W_laws_heldIntS _ _ _ hy') ?_
          refine ops H' ?_
          refine zE ?_
          refine zB ?_
          refine zB ?_
          refine zA ?_
          refine ops H' ?_
          refine zE ?_
          refine zH (fun hc'=>?_) (fun hc'=>?_)
          ·replace h0':=(ifT hc').symm.trans h0'
           refine zB ?_
           refine zA ?_
           refine ops H' ?_
           refine zE ?_
           refine zN ?_
           obtain rfl:=zso h0'
           exact zO H' rfl rfl
          ·replace h0':=(ifF hc').symm.trans h0'
           refine zM ?_
           refine zB ?_
           refine zB ?_
           refine zA ?_
           refine ops H' ?_
           refine zE ?_
           refine zH (fun hc'=>?_) (fun hc'=>?_)
           ·replace h0':=(ifT hc').symm.trans h0'
            refine zB ?_
            refine zA ?_
            refine ops H' ?_
            refine zE ?_
            refine zN ?_
            obtain rfl:=zso h0'
            exact zO H' rfl rfl
           ·replace h0':=(ifF hc').symm.trans h0'
            refine zM ?_
            refine zB ?_
            refine zA ?_
            refine ops H' ?_
            obtain ⟨x86,hy',h0'⟩:=zbi h0'
            refine zR H' (fun _=>[]) (W_laws_toStore _ _ hy') ?_
            refine ops H' ?_
            obtain ⟨x89,hy',h0'⟩:=zbi h0'
            refine zR H' (fun _=>[]) (W_impl_FileLog _ _ _ _ hy') ?_
            refine ops H' ?_
            refine zE ?_
            refine zB ?_
            refine zB ?_
            refine zA ?_
            refine ops H' ?_
            obtain ⟨x94,hy',h0'⟩:=zbi h0'
            refine zR H' (fun _=>[]) (W_laws_eqIntS _ _ _ hy') ?_
            refine ops H' ?_
            obtain ⟨b_3,gh0',h0'⟩:=zbi h0'
            refine qC 4 (fun e'=>e'=⟨109,4,5,[(11,.pl (.one (.ref 4 []))),(14,.pl (.one (.v (.sc (.int .i64 x75.1))))),(100,.pl (.one (.v (.sc (.bool b_3)))))],[(4,.list true 1 (List.map (rK .i64) x75.2))]⟩) ?_ ?_
            ·simp only [List.take_succ_cons,List.take_zero]
             refine qE (fun hc'=>?_) (fun hc'=>?_)
             ·replace gh0':=(ifF hc').symm.trans gh0'
              refine ops H' ?_
              obtain rfl:=zso gh0'
              refine zG ?_
              exact ⟨rfl,shd [11,14,100] [(6,4)] 5 rfl⟩
             ·replace gh0':=(ifT hc').symm.trans gh0'
              refine ops H' ?_
              obtain rfl:=zso gh0'
              refine zG ?_
              exact ⟨rfl,shd [11,14,100] [(6,4)] 5 rfl⟩
            ·rintro e' rfl
             simp only [List.drop_succ_cons,List.drop_zero]
             refine zE ?_
             refine zH (fun hc'=>?_) (fun hc'=>?_)
             ·replace h0':=(ifT hc').symm.trans h0'
              refine zB ?_
              refine zA ?_
              refine ops H' ?_
              refine zE ?_
              refine zN ?_
              obtain rfl:=zso h0'
              exact zO H' rfl rfl
             ·replace h0':=(ifF hc').symm.trans h0'
              refine zM ?_
              refine zB ?_
              refine zA ?_
              refine ops H' ?_
              refine zE ?_
              refine zB ?_
              refine zA ?_
              refine ops H' ?_
              obtain ⟨x103,hy',h0'⟩:=zbi h0'
              refine zR H' (fun _=>[]) (W_laws_heldIntS _ _ _ hy') ?_
              refine ops H' ?_
              refine zE ?_
              refine zB ?_
              refine zB ?_
              refine zA ?_
              refine ops H' ?_
              refine zE ?_
              refine zH (fun hc'=>?_) (fun hc'=>?_)
              ·replace h0':=(ifT hc').symm.trans h0'
               refine zB ?_
               refine zA ?_
               refine ops H' ?_
               refine zE ?_
               refine zN ?_
               obtain rfl:=zso h0'
               exact zO H' rfl rfl
              ·replace h0':=(ifF hc').symm.trans h0'
               refine zM ?_
               refine zB ?_
               refine zB ?_
               refine zA ?_
               refine ops H' ?_
               refine zE ?_
               refine zH (fun hc'=>?_) (fun hc'=>?_)
               ·replace h0':=(ifT hc').symm.trans h0'
                refine zB ?_
                refine zA ?_
                refine ops H' ?_
                refine zE ?_
                refine zN ?_
                obtain rfl:=zso h0'
                exact zO H' rfl rfl
               ·replace h0':=(ifF hc').symm.trans h0'
                refine zM ?_
                refine zB ?_
                refine zA ?_
                refine ops H' ?_
                refine zE ?_
                refine zN ?_
                obtain rfl:=zso h0'
                exact zO H' rfl rfl
end Go.TV.KFnExactFileLog
