/- Walks. -/
import Derived.Test.YtmoglghkjfjalaaGreatKFnExactFileLogE
set_option linter.unusedVariables false
set_option linter.unusedSimpArgs false
set_option maxHeartbeats 8000000
set_option maxRecDepth 100000
namespace Go.TV.KFnExactFileLog
attribute [local irreducible] anyV wpV opsV Does thenV blockV RetL quV seqV
open Go.Proofs.Tryz Go.TV.F
theorem W_laws_szIntS (a:List Int) (left:Int) (r':Int) (h0':laws_szIntS a left=some r'):Fn X 223 [.one (.list false 1 (List.map (rK .i64) a)),.one (.sc (.int .i64 left))] [.one (.sc (.int .i64 r'))] []:=by
 have H':=And.intro t3 (And.intro t40 (qK))
 unfold laws_szIntS at h0'
 refine Fn.start (fn:=f223) (N:=12) (res:=[.tmp 4]) rfl rfl rfl rfl rfl (by simp) ?_
 refine zU H' ?_
 refine zB ?_
 refine zA ?_
 refine ops H' ?_
 refine zE ?_
 refine zB ?_
 refine zA ?_
 refine ops H' ?_
 refine zE ?_
 refine zB ?_
 refine zB ?_
 refine zA ?_
 refine ops H' ?_
 refine zE ?_
 refine zH (fun hc'=>?_) (fun hc'=>?_)
 ·replace h0':=(ifT hc').symm.trans h0'
  refine zB ?_
  refine zA ?_
  refine ops H' ?_
  refine zE ?_
  refine zN ?_
  obtain rfl:=zso h0'
  exact zO H' rfl rfl
 ·replace h0':=(ifF hc').symm.trans h0'
  refine zM ?_
  refine zB ?_
  refine zA ?_
  refine ops H' ?_
  refine zE ?_
  refine zN ?_
  obtain rfl:=zso h0'
  exact zO H' rfl rfl
theorem W_laws_szName (a:T_laws_Name) (left:Int) (r':Int) (h0':laws_szName a left=some r'):Fn X 251 [.agg [.sc (.string a.Path),.sc (.int .i64 a.Id),.sc (.int .i64 a.Version)],.one (.sc (.int .i64 left))] [.one (.sc (.int .i64 r'))] []:=by
 have H':=And.intro t3 (And.intro t9 (t287))
 unfold laws_szName at h0'
 refine Fn.start (fn:=f251) (N:=13) (res:=[.tmp 4]) rfl rfl rfl rfl rfl (by simp) ?_
 refine zU H' ?_
 refine zB ?_
 refine zA ?_
 refine ops H' ?_
 refine zE ?_
 refine zB ?_
 refine zA ?_
 refine ops H' ?_
 refine zE ?_
 refine zB ?_
 refine zB ?_
 refine zA ?_
 refine ops H' ?_
 refine zE ?_
 refine zH (fun hc'=>?_) (fun hc'=>?_)
 ·replace h0':=(ifT hc').symm.trans h0'
  refine zB ?_
  refine zA ?_
  refine ops H' ?_
  refine zE ?_
  refine zN ?_
  obtain rfl:=zso h0'
  exact zO H' rfl rfl
 ·replace h0':=(ifF hc').symm.trans h0'
  refine zM ?_
  refine zB ?_
  refine zA ?_
  refine ops H' ?_
  refine zE ?_
  refine zN ?_
  obtain rfl:=zso h0'
  exact zO H' rfl rfl
theorem W_laws_szNameS (a:List T_laws_Name) (left:Int) (r':Int) (h0':laws_szNameS a left=some r'):Fn X 224 [.one (.list false 3 (List.map (zY true) a)),.one (.sc (.int .i64 left))] [.one (.sc (.int .i64 r'))] []:=by
 have H':=And.intro t3 (And.intro t217 (And.intro t287 (R_T_laws_Name)))
 unfold laws_szNameS at h0'
 refine Fn.start (fn:=f224) (N:=27) (res:=[.tmp 4]) rfl rfl rfl rfl rfl (by simp) ?_
 refine zU H' ?_
 refine zB ?_
 refine zA ?_
 refine ops H' ?_
 refine zE ?_
 refine zB ?_
 refine zA ?_
 refine ops H' ?_
 refine zE ?_
 refine zB ?_
 refine zB ?_
 refine zA ?_
 refine ops H' ?_
 refine zE ?_
 refine zH (fun hc'=>?_) (fun hc'=>?_)
 ·replace h0':=(ifT hc').symm.trans h0'
  refine zB ?_
  refine zA ?_
  refine ops H' ?_
  refine zE ?_
  refine zN ?_
  obtain rfl:=zso h0'
  exact zO H' rfl rfl
 ·replace h0':=(ifF hc').symm.trans h0'
  refine zM ?_
  refine zV (fun e'=>∃ left_1,laws_szNameS_j1 left_1=some r'∧e'=⟨27,2,2,[(1,.pl (.one (.v (.sc (.int .i64 left_1)))))],[]⟩) ?_ ?_
  ·refine zB ?_
   refine zA ?_
   refine ops H' ?_
   refine zE ?_
   obtain ⟨p,hl',h0'⟩:=zbi h0'
   refine zI ?_
   refine zS (fun s' e'=>∃ left_2 i,s'=(left_2,i)∧e'=⟨27,2,2,[(0,.pl (.one (.v (.list false 3 (List.map (zY true) a))))),(1,.pl (.one (.v (.sc (.int .i64 left_2))))),(5,.pl (.one (.v (.sc (.int .i64 i)))))],[]⟩) hl' (shd [0,1,5] [] 2 ⟨_,_,rfl,rfl⟩) ?_
   rintro s' y1' e' h1' ⟨left_2,i,rfl,rfl⟩
   replace h1':laws_szNameS_l1 a left_2 i=some y1':=h1'
   unfold laws_szNameS_l1 at h1'
   refine zB ?_
   refine zB ?_
   refine zA ?_
   refine ops H' ?_
   refine zE ?_
   refine zH (fun hc'=>?_) (fun hc'=>?_)
   ·replace h1':=(ifT hc').symm.trans h1'
    refine zM ?_
    refine zB ?_
    refine zI ?_
    refine zB ?_
    refine zA ?_
    obtain ⟨x,hv',h1'⟩:=zbi h1'
    have H':=And.intro (zP hv') H'
    refine ops H' ?_
    obtain ⟨x23,hy',h1'⟩:=zbi h1'
    refine zR H' (fun _=>[]) (W_laws_szName _ _ _ hy') ?_
    refine ops H' ?_
    refine zE ?_
    refine zB ?_
    refine zA ?_
    refine ops H' ?_
    refine zE ?_
    refine zH (fun hc'=>?_) (fun hc'=>?_)
    ·replace h1':=(ifT hc').symm.trans h1'
     refine zB ?_
     refine zA ?_
     refine ops H' ?_
     refine zE ?_
     refine zN ?_
     obtain rfl:=zso h1'
     refine ⟨_,rfl,fun hr'=>?_⟩
     subst hr'
     obtain rfl:=zso h0'
     exact zO H' rfl rfl
    ·replace h1':=(ifF hc').symm.trans h1'
     refine zM ?_
     refine zA ?_
     refine ops H' ?_
     refine zE ?_
     obtain rfl:=zso h1'
     exact shd [0,1,5] [] 2 ⟨_,rfl,_,_,rfl,rfl⟩
   ·replace h1':=(ifF hc').symm.trans h1'
    refine qJ ?_
    obtain rfl:=zso h1'
    refine ⟨_,rfl,fun hr'=>?_⟩
    subst hr'
    exact shd [1] [] 2 ⟨_,h0',rfl⟩
  ·rintro e' ⟨left_1,h0',rfl⟩
   unfold laws_szNameS_j1 at h0'
   refine zB ?_
   refine zA ?_
   refine ops H' ?_
   refine zE ?_
   refine zN ?_
   obtain rfl:=zso h0'
   exact zO H' rfl rfl
theorem W_laws_szCommit (a:T_laws_Commit) (left:Int) (r':Int) (h0':laws_szCommit a left=some r'):Fn X 158 [.agg [.list false 1 (List.map (rK .i64) a.Parents),.sc (.string a.Note),.list false 3 (List.map (zY true) a.Names)],.one (.sc (.int .i64 left))] [.one (.sc (.int .i64 r'))] []:=by
 have H':=And.intro t3 (And.intro t9 (And.intro t40 (And.intro t217 (And.intro t219 (And.intro R_T_laws_Name (qK))))))
 unfold laws_szCommit at h0'
 refine Fn.start (fn:=f158) (N:=25) (res:=[.tmp 4]) rfl rfl rfl rfl rfl (by simp) ?_
 refine zU H' ?_
 refine zB ?_
 refine zA ?_
 refine ops H' ?_
 refine zE ?_
 refine zB ?_
 refine zA ?_
 refine ops H' ?_
 obtain ⟨x8,hy',h0'⟩:=zbi h0'
 refine zR H' (fun _=>[]) (W_laws_szIntS _ _ _ hy') ?_
 refine ops H' ?_
 refine zE ?_
 refine zB ?_
 refine zB ?_
 refine zA ?_
 refine ops H' ?_
 refine zE ?_
 refine zH (fun hc'=>?_) (fun hc'=>?_)
 ·replace h0':=(ifT hc').symm.trans h0'
  refine zB ?_
  refine zA ?_
  refine ops H' ?_
  refine zE ?_
  refine zN ?_
  obtain rfl:=zso h0'
  exact zO H' rfl rfl
 ·replace h0':=(ifF hc').symm.trans h0'
  refine zM ?_
  refine zB ?_
  refine zA ?_
  refine ops H' ?_
  refine zE ?_
  refine zB ?_
  refine zB ?_
  refine zA ?_
  refine ops H' ?_
  refine zE ?_
  refine zH (fun hc'=>?_) (fun hc'=>?_)
  ·replace h0':=(ifT hc').symm.trans h0'
   refine zB ?_
   refine zA ?_
   refine ops H' ?_
   refine zE ?_
   refine zN ?_
   obtain rfl:=zso h0'
   exact zO H' rfl rfl
  ·replace h0':=(ifF hc').symm.trans h0'
   refine zM ?_
   refine zB ?_
   refine zA ?_
   refine ops H' ?_
   obtain ⟨x21,hy',h0'⟩:=zbi h0'
   refine zR H' (fun _=>[]) (W_laws_szNameS _ _ _ hy') ?_
   refine ops H' ?_
   refine zE ?_
   refine zB ?_
   refine zB ?_
   refine zA ?_
   refine ops H' ?_
   refine zE ?_
   refine zH (fun hc'=>?_) (fun hc'=>?_)
   ·replace h0':=(ifT hc').symm.trans h0'
    refine zB ?_
    refine zA ?_
    refine ops H' ?_
    refine zE ?_
    refine zN ?_
    obtain rfl:=zso h0'
    exact zO H' rfl rfl
   ·replace h0':=(ifF hc').symm.trans h0'
    refine zM ?_
    refine zB ?_
    refine zA ?_
    refine ops H' ?_
    refine zE ?_
    refine zN ?_
    obtain rfl:=zso h0'
    exact zO H' rfl rfl
theorem W_laws_szCommitS (a:List T_laws_Commit) (left:Int) (r':Int) (h0':laws_szCommitS a left=some r'):Fn X 62 [.one (.list false 3 (List.map (zK false) a)),.one (.sc (.int .i64 left))] [.one (.sc (.int .i64 r'))] []:=by
 have H':=And.intro t3 (And.intro t48 (And.intro t219 (And.intro R_T_laws_Commit (And.intro R_T_laws_Name (qK)))))
 unfold laws_szCommitS at h0'
 refine Fn.start (fn:=f62) (N:=27) (res:=[.tmp 4]) rfl rfl rfl rfl rfl (by simp) ?_
 refine zU H' ?_
 refine zB ?_
 refine zA ?_
 refine ops H' ?_
 refine zE ?_
 refine zB ?_
 refine zA ?_
 refine ops H' ?_
 refine zE ?_
 refine zB ?_
 refine zB ?_
 refine zA ?_
 refine ops H' ?_
 refine zE ?_
 refine zH (fun hc'=>?_) (fun hc'=>?_)
 ·replace h0':=(ifT hc').symm.trans h0'
  refine zB ?_
  refine zA ?_
  refine ops H' ?_
  refine zE ?_
  refine zN ?_
  obtain rfl:=zso h0'
  exact zO H' rfl rfl
 ·replace h0':=(ifF hc').symm.trans h0'
  refine zM ?_
  refine zV (fun e'=>∃ left_1,laws_szCommitS_j1 left_1=some r'∧e'=⟨27,2,2,[(1,.pl (.one (.v (.sc (.int .i64 left_1)))))],[]⟩) ?_ ?_
  ·refine zB ?_
   refine zA ?_
   refine ops H' ?_
   refine zE ?_
   obtain ⟨p,hl',h0'⟩:=zbi h0'
   refine zI ?_
   refine zS (fun s' e'=>∃ left_2 i,s'=(left_2,i)∧e'=⟨27,2,2,[(0,.pl (.one (.v (.list false 3 (List.map (zK false) a))))),(1,.pl (.one (.v (.sc (.int .i64 left_2))))),(5,.pl (.one (.v (.sc (.int .i64 i)))))],[]⟩) hl' (shd [0,1,5] [] 2 ⟨_,_,rfl,rfl⟩) ?_
   rintro s' y1' e' h1' ⟨left_2,i,rfl,rfl⟩
   replace h1':jP a left_2 i=some y1':=h1'
   unfold jP at h1'
   refine zB ?_
   refine zB ?_
   refine zA ?_
   refine ops H' ?_
   refine zE ?_
   refine zH (fun hc'=>?_) (fun hc'=>?_)
   ·replace h1':=(ifT hc').symm.trans h1'
    refine zM ?_
    refine zB ?_
    refine zI ?_
    refine zB ?_
    refine zA ?_
    obtain ⟨x,hv',h1'⟩:=zbi h1'
    have H':=And.intro (zP hv') H'
    refine ops H' ?_
    obtain ⟨x23,hy',h1'⟩:=zbi h1'
    refine zR H' (fun _=>[]) (W_laws_szCommit _ _ _ hy') ?_
    refine ops H' ?_
    refine zE ?_
    refine zB ?_
    refine zA ?_
    refine ops H' ?_
    refine zE ?_
    refine zH (fun hc'=>?_) (fun hc'=>?_)
    ·replace h1':=(ifT hc').symm.trans h1'
     refine zB ?_
     refine zA ?_
     refine ops H' ?_
     refine zE ?_
     refine zN ?_
     obtain rfl:=zso h1'
     refine ⟨_,rfl,fun hr'=>?_⟩
     subst hr'
     obtain rfl:=zso h0'
     exact zO H' rfl rfl
    ·replace h1':=(ifF hc').symm.trans h1'
     refine zM ?_
     refine zA ?_
     refine ops H' ?_
     refine zE ?_
     obtain rfl:=zso h1'
     exact shd [0,1,5] [] 2 ⟨_,rfl,_,_,rfl,rfl⟩
   ·replace h1':=(ifF hc').symm.trans h1'
    refine qJ ?_
    obtain rfl:=zso h1'
    refine ⟨_,rfl,fun hr'=>?_⟩
    subst hr'
    exact shd [1] [] 2 ⟨_,h0',rfl⟩
  ·rintro e' ⟨left_1,h0',rfl⟩
   unfold laws_szCommitS_j1 at h0'
   refine zB ?_
   refine zA ?_
   refine ops H' ?_
   refine zE ?_
   refine zN ?_
   obtain rfl:=zso h0'
   exact zO H' rfl rfl
theorem W_laws_szIntSS (a:List (List Int)) (left:Int) (r':Int) (h0':laws_szIntSS a left=some r'):Fn X 225 [.one (.list false 1 (List.map (rL false 1 (rK .i64)) a)),.one (.sc (.int .i64 left))] [.one (.sc (.int .i64 r'))] []:=by
 have H':=And.intro t3 (And.intro t33 (And.intro t40 (And.intro qT (qK))))
 unfold laws_szIntSS at h0'
 refine Fn.start (fn:=f225) (N:=27) (res:=[.tmp 4]) rfl rfl rfl rfl rfl (by simp) ?_
 refine zU H' ?_
 refine zB ?_
 refine zA ?_
 refine ops H' ?_
 refine zE ?_
 refine zB ?_
 refine zA ?_
 refine ops H' ?_
 refine zE ?_
 refine zB ?_
 refine zB ?_
 refine zA ?_
 refine ops H' ?_
 refine zE ?_
 refine zH (fun hc'=>?_) (fun hc'=>?_)
 ·replace h0':=(ifT hc').symm.trans h0'
  refine zB ?_
  refine zA ?_
  refine ops H' ?_
  refine zE ?_
  refine zN ?_
  obtain rfl:=zso h0'
  exact zO H' rfl rfl
 ·replace h0':=(ifF hc').symm.trans h0'
  refine zM ?_
  refine zV (fun e'=>∃ left_1,laws_szIntSS_j1 left_1=some r'∧e'=⟨27,2,2,[(1,.pl (.one (.v (.sc (.int .i64 left_1)))))],[]⟩) ?_ ?_
  ·refine zB ?_
   refine zA ?_
   refine ops H' ?_
   refine zE ?_
   obtain ⟨p,hl',h0'⟩:=zbi h0'
   refine zI ?_
   refine zS (fun s' e'=>∃ left_2 i,s'=(left_2,i)∧e'=⟨27,2,2,[(0,.pl (.one (.v (.list false 1 (List.map (rL false 1 (rK .i64)) a))))),(1,.pl (.one (.v (.sc (.int .i64 left_2))))),(5,.pl (.one (.v (.sc (.int .i64 i)))))],[]⟩) hl' (shd [0,1,5] [] 2 ⟨_,_,rfl,rfl⟩) ?_
   rintro s' y1' e' h1' ⟨left_2,i,rfl,rfl⟩
   replace h1':laws_szIntSS_l1 a left_2 i=some y1':=h1'
   unfold laws_szIntSS_l1 at h1'
   refine zB ?_
   refine zB ?_
   refine zA ?_
   refine ops H' ?_
   refine zE ?_
   refine zH (fun hc'=>?_) (fun hc'=>?_)
   ·replace h1':=(ifT hc').symm.trans h1'
    refine zM ?_
    refine zB ?_
    refine zI ?_
    refine zB ?_
    refine zA ?_
    obtain ⟨x,hv',h1'⟩:=zbi h1'
    have H':=And.intro (zP hv') H'
    refine ops H' ?_
    obtain ⟨x23,hy',h1'⟩:=zbi h1'
    refine zR H' (fun _=>[]) (W_laws_szIntS _ _ _ hy') ?_
    refine ops H' ?_
    refine zE ?_
    refine zB ?_
    refine zA ?_
    refine ops H' ?_
    refine zE ?_
    refine zH (fun hc'=>?_) (fun hc'=>?_)
    ·replace h1':=(ifT hc').symm.trans h1'
     refine zB ?_
     refine zA ?_
     refine ops H' ?_
     refine zE ?_
     refine zN ?_
     obtain rfl:=zso h1'
     refine ⟨_,rfl,fun hr'=>?_⟩
     subst hr'
     obtain rfl:=zso h0'
     exact zO H' rfl rfl
    ·replace h1':=(ifF hc').symm.trans h1'
     refine zM ?_
     refine zA ?_
     refine ops H' ?_
     refine zE ?_
     obtain rfl:=zso h1'
     exact shd [0,1,5] [] 2 ⟨_,rfl,_,_,rfl,rfl⟩
   ·replace h1':=(ifF hc').symm.trans h1'
    refine qJ ?_
    obtain rfl:=zso h1'
    refine ⟨_,rfl,fun hr'=>?_⟩
    subst hr'
    exact shd [1] [] 2 ⟨_,h0',rfl⟩
  ·rintro e' ⟨left_1,h0',rfl⟩
   unfold laws_szIntSS_j1 at h0'
   refine zB ?_
   refine zA ?_
   refine ops H' ?_
   refine zE ?_
   refine zN ?_
   obtain rfl:=zso h0'
   exact zO H' rfl rfl
theorem W_laws_szBody (a:T_laws_Body) (left:Int) (r':Int) (h0':laws_szBody a left=some r'):Fn X 252 [.agg [.sc (.string a.Line),.sc (.int .i64 a.Ins),.sc (.int .i64 a.Ord),.list false 1 (List.map (rK .i64) a.Dels)],.one (.sc (.int .i64 left))] [.one (.sc (.int .i64 r'))] []:=by
 have H':=And.intro t3 (And.intro t9 (And.intro t40 (And.intro t289 (qK))))
 unfold laws_szBody at h0'
 refine Fn.start (fn:=f252) (N:=19) (res:=[.tmp 4]) rfl rfl rfl rfl rfl (by simp) ?_
 refine zU H' ?_
 refine zB ?_
 refine zA ?_
 refine ops H' ?_
 refine zE ?_
 refine zB ?_
 refine zA ?_
 refine ops H' ?_
 refine zE ?_
 refine zB ?_
 refine zB ?_
 refine zA ?_
 refine ops H' ?_
 refine zE ?_
 refine zH (fun hc'=>?_) (fun hc'=>?_)
 ·replace h0':=(ifT hc').symm.trans h0'
  refine zB ?_
  refine zA ?_
  refine ops H' ?_
  refine zE ?_
  refine zN ?_
  obtain rfl:=zso h0'
  exact zO H' rfl rfl
 ·replace h0':=(ifF hc').symm.trans h0'
  refine zM ?_
  refine zB ?_
  refine zA ?_
  refine ops H' ?_
  obtain ⟨x15,hy',h0'⟩:=zbi h0'
  refine zR H' (fun _=>[]) (W_laws_szIntS _ _ _ hy') ?_
  refine ops H' ?_
  refine zE ?_
  refine zB ?_
  refine zB ?_
  refine zA ?_
  refine ops H' ?_
  refine zE ?_
  refine zH (fun hc'=>?_) (fun hc'=>?_)
  ·replace h0':=(ifT hc').symm.trans h0'
   refine zB ?_
   refine zA ?_
   refine ops H' ?_
   refine zE ?_
   refine zN ?_
   obtain rfl:=zso h0'
   exact zO H' rfl rfl
  ·replace h0':=(ifF hc').symm.trans h0'
   refine zM ?_
   refine zB ?_
   refine zA ?_
   refine ops H' ?_
   refine zE ?_
   refine zN ?_
   obtain rfl:=zso h0'
   exact zO H' rfl rfl
theorem W_laws_szBodyS (a:List T_laws_Body) (left:Int) (r':Int) (h0':laws_szBodyS a left=some r'):Fn X 226 [.one (.list false 4 (List.map (zT false) a)),.one (.sc (.int .i64 left))] [.one (.sc (.int .i64 r'))] []:=by
 have H':=And.intro t3 (And.intro t221 (And.intro t289 (And.intro R_T_laws_Body (qK))))
 unfold laws_szBodyS at h0'
 refine Fn.start (fn:=f226) (N:=27) (res:=[.tmp 4]) rfl rfl rfl rfl rfl (by simp) ?_
 refine zU H' ?_
 refine zB ?_
 refine zA ?_
 refine ops H' ?_
 refine zE ?_
 refine zB ?_
 refine zA ?_
 refine ops H' ?_
 refine zE ?_
 refine zB ?_
 refine zB ?_
 refine zA ?_
 refine ops H' ?_
 refine zE ?_
 refine zH (fun hc'=>?_) (fun hc'=>?_)
 ·replace h0':=(ifT hc').symm.trans h0'
  refine zB ?_
  refine zA ?_
  refine ops H' ?_
  refine zE ?_
  refine zN ?_
  obtain rfl:=zso h0'
  exact zO H' rfl rfl
 ·replace h0':=(ifF hc').symm.trans h0'
  refine zM ?_
  refine zV (fun e'=>∃ left_1,laws_szBodyS_j1 left_1=some r'∧e'=⟨27,2,2,[(1,.pl (.one (.v (.sc (.int .i64 left_1)))))],[]⟩) ?_ ?_
  ·refine zB ?_
   refine zA ?_
   refine ops H' ?_
   refine zE ?_
   obtain ⟨p,hl',h0'⟩:=zbi h0'
   refine zI ?_
   refine zS (fun s' e'=>∃ left_2 i,s'=(left_2,i)∧e'=⟨27,2,2,[(0,.pl (.one (.v (.list false 4 (List.map (zT false) a))))),(1,.pl (.one (.v (.sc (.int .i64 left_2))))),(5,.pl (.one (.v (.sc (.int .i64 i)))))],[]⟩) hl' (shd [0,1,5] [] 2 ⟨_,_,rfl,rfl⟩) ?_
   rintro s' y1' e' h1' ⟨left_2,i,rfl,rfl⟩
   replace h1':laws_szBodyS_l1 a left_2 i=some y1':=h1'
   unfold laws_szBodyS_l1 at h1'
   refine zB ?_
   refine zB ?_
   refine zA ?_
   refine ops H' ?_
   refine zE ?_
   refine zH (fun hc'=>?_) (fun hc'=>?_)
   ·replace h1':=(ifT hc').symm.trans h1'
    refine zM ?_
    refine zB ?_
    refine zI ?_
    refine zB ?_
    refine zA ?_
    obtain ⟨x,hv',h1'⟩:=zbi h1'
    have H':=And.intro (zP hv') H'
    refine ops H' ?_
    obtain ⟨x23,hy',h1'⟩:=zbi h1'
    refine zR H' (fun _=>[]) (W_laws_szBody _ _ _ hy') ?_
    refine ops H' ?_
    refine zE ?_
    refine zB ?_
    refine zA ?_
    refine ops H' ?_
    refine zE ?_
    refine zH (fun hc'=>?_) (fun hc'=>?_)
    ·replace h1':=(ifT hc').symm.trans h1'
     refine zB ?_
     refine zA ?_
     refine ops H' ?_
     refine zE ?_
     refine zN ?_
     obtain rfl:=zso h1'
     refine ⟨_,rfl,fun hr'=>?_⟩
     subst hr'
     obtain rfl:=zso h0'
     exact zO H' rfl rfl
    ·replace h1':=(ifF hc').symm.trans h1'
     refine zM ?_
     refine zA ?_
     refine ops H' ?_
     refine zE ?_
     obtain rfl:=zso h1'
     exact shd [0,1,5] [] 2 ⟨_,rfl,_,_,rfl,rfl⟩
   ·replace h1':=(ifF hc').symm.trans h1'
    refine qJ ?_
    obtain rfl:=zso h1'
    refine ⟨_,rfl,fun hr'=>?_⟩
    subst hr'
    exact shd [1] [] 2 ⟨_,h0',rfl⟩
  ·rintro e' ⟨left_1,h0',rfl⟩
   unfold laws_szBodyS_j1 at h0'
   refine zB ?_
   refine zA ?_
   refine ops H' ?_
   refine zE ?_
   refine zN ?_
   obtain rfl:=zso h0'
   exact zO H' rfl rfl
theorem W_laws_szWeave (a:T_laws_Weave) (left:Int) (r':Int) (h0':laws_szWeave a left=some r'):Fn X 159 [.agg [.list false 1 (List.map (rL false 1 (rK .i64)) a.Parents),.list false 4 (List.map (zT false) a.Bodies)],.one (.sc (.int .i64 left))] [.one (.sc (.int .i64 r'))] []:=by
 have H':=And.intro t3 (And.intro t33 (And.intro t221 (And.intro t223 (And.intro qT (And.intro R_T_laws_Body (qK))))))
 unfold laws_szWeave at h0'
 refine Fn.start (fn:=f159) (N:=18) (res:=[.tmp 4]) rfl rfl rfl rfl rfl (by simp) ?_
 refine zU H' ?_
 refine zB ?_
 refine zA ?_
 refine ops H' ?_
 refine zE ?_
 refine zB ?_
 refine zA ?_
 refine ops H' ?_
 obtain ⟨x8,hy',h0'⟩:=zbi h0'
 refine zR H' (fun _=>[]) (W_laws_szIntSS _ _ _ hy') ?_
 refine ops H' ?_
 refine zE ?_
 refine zB ?_
 refine zB ?_
 refine zA ?_
 refine ops H' ?_
 refine zE ?_
 refine zH (fun hc'=>?_) (fun hc'=>?_)
 ·replace h0':=(ifT hc').symm.trans h0'
  refine zB ?_
  refine zA ?_
  refine ops H' ?_
  refine zE ?_
  refine zN ?_
  obtain rfl:=zso h0'
  exact zO H' rfl rfl
 ·replace h0':=(ifF hc').symm.trans h0'
  refine zM ?_
  refine zB ?_
  refine zA ?_
  refine ops H' ?_
  obtain ⟨x14,hy',h0'⟩:=zbi h0'
  refine zR H' (fun _=>[]) (W_laws_szBodyS _ _ _ hy') ?_
  refine ops H' ?_
  refine zE ?_
  refine zB ?_
  refine zB ?_
  refine zA ?_
  refine ops H' ?_
  refine zE ?_
  refine zH (fun hc'=>?_) (fun hc'=>?_)
  ·replace h0':=(ifT hc').symm.trans h0'
   refine zB ?_
   refine zA ?_
   refine ops H' ?_
   refine zE ?_
   refine zN ?_
   obtain rfl:=zso h0'
   exact zO H' rfl rfl
  ·replace h0':=(ifF hc').symm.trans h0'
   refine zM ?_
   refine zB ?_
   refine zA ?_
   refine ops H' ?_
   refine zE ?_
   refine zN ?_
   obtain rfl:=zso h0'
   exact zO H' rfl rfl
theorem W_laws_szWeaveS (a:List T_laws_Weave) (left:Int) (r':Int) (h0':laws_szWeaveS a left=some r'):Fn X 63 [.one (.list false 2 (List.map (zL false) a)),.one (.sc (.int .i64 left))] [.one (.sc (.int .i64 r'))] []:=by
 have H':=And.intro t3 (And.intro t49 (And.intro t223 (And.intro qT (And.intro R_T_laws_Body (And.intro R_T_laws_Weave (qK))))))
 unfold laws_szWeaveS at h0'
 refine Fn.start (fn:=f63) (N:=27) (res:=[.tmp 4]) rfl rfl rfl rfl rfl (by simp) ?_
 refine zU H' ?_
 refine zB ?_
 refine zA ?_
 refine ops H' ?_
 refine zE ?_
 refine zB ?_
 refine zA ?_
 refine ops H' ?_
 refine zE ?_
 refine zB ?_
 refine zB ?_
 refine zA ?_
 refine ops H' ?_
 refine zE ?_
 refine zH (fun hc'=>?_) (fun hc'=>?_)
 ·replace h0':=(ifT hc').symm.trans h0'
  refine zB ?_
  refine zA ?_
  refine ops H' ?_
  refine zE ?_
  refine zN ?_
  obtain rfl:=zso h0'
  exact zO H' rfl rfl
 ·replace h0':=(ifF hc').symm.trans h0'
  refine zM ?_
  refine zV (fun e'=>∃ left_1,laws_szWeaveS_j1 left_1=some r'∧e'=⟨27,2,2,[(1,.pl (.one (.v (.sc (.int .i64 left_1)))))],[]⟩) ?_ ?_
  ·refine zB ?_
   refine zA ?_
   refine ops H' ?_
   refine zE ?_
   obtain ⟨p,hl',h0'⟩:=zbi h0'
   refine zI ?_
   refine zS (fun s' e'=>∃ left_2 i,s'=(left_2,i)∧e'=⟨27,2,2,[(0,.pl (.one (.v (.list false 2 (List.map (zL false) a))))),(1,.pl (.one (.v (.sc (.int .i64 left_2))))),(5,.pl (.one (.v (.sc (.int .i64 i)))))],[]⟩) hl' (shd [0,1,5] [] 2 ⟨_,_,rfl,rfl⟩) ?_
   rintro s' y1' e' h1' ⟨left_2,i,rfl,rfl⟩
   replace h1':laws_szWeaveS_l1 a left_2 i=some y1':=h1'
   unfold laws_szWeaveS_l1 at h1'
   refine zB ?_
   refine zB ?_
   refine zA ?_
   refine ops H' ?_
   refine zE ?_
   refine zH (fun hc'=>?_) (fun hc'=>?_)
   ·replace h1':=(ifT hc').symm.trans h1'
    refine zM ?_
    refine zB ?_
    refine zI ?_
    refine zB ?_
    refine zA ?_
    obtain ⟨x,hv',h1'⟩:=zbi h1'
    have H':=And.intro (zP hv') H'
    refine ops H' ?_
    obtain ⟨x23,hy',h1'⟩:=zbi h1'
    refine zR H' (fun _=>[]) (W_laws_szWeave _ _ _ hy') ?_
    refine ops H' ?_
    refine zE ?_
    refine zB ?_
    refine zA ?_
    refine ops H' ?_
    refine zE ?_
    refine zH (fun hc'=>?_) (fun hc'=>?_)
    ·replace h1':=(ifT hc').symm.trans h1'
     refine zB ?_
     refine zA ?_
     refine ops H' ?_
     refine zE ?_
     refine zN ?_
     obtain rfl:=zso h1'
     refine ⟨_,rfl,fun hr'=>?_⟩
     subst hr'
     obtain rfl:=zso h0'
     exact zO H' rfl rfl
    ·replace h1':=(ifF hc').symm.trans h1'
     refine zM ?_
     refine zA ?_
     refine ops H' ?_
     refine zE ?_
     obtain rfl:=zso h1'
     exact shd [0,1,5] [] 2 ⟨_,rfl,_,_,rfl,rfl⟩
   ·replace h1':=(ifF hc').symm.trans h1'
    refine qJ ?_
    obtain rfl:=zso h1'
    refine ⟨_,rfl,fun hr'=>?_⟩
    subst hr'
    exact shd [1] [] 2 ⟨_,h0',rfl⟩
  ·rintro e' ⟨left_1,h0',rfl⟩
   unfold laws_szWeaveS_j1 at h0'
   refine zB ?_
   refine zA ?_
   refine ops H' ?_
   refine zE ?_
   refine zN ?_
   obtain rfl:=zso h0'
   exact zO H' rfl rfl
theorem W_laws_szStore (a:T_laws_Store) (left:Int) (r':Int) (h0':laws_szStore a left=some r'):Fn X 14 [.agg [.list false 3 (List.map (zK false) a.Commits),.list false 2 (List.map (zL false) a.Files)],.one (.sc (.int .i64 left))] [.one (.sc (.int .i64 r'))] []:=by
 have H':=And.intro t3 (And.intro t48 (And.intro t49 (And.intro t51 (And.intro qT (And.intro R_T_laws_Body (And.intro R_T_laws_Commit (And.intro R_T_laws_Name (And.intro R_T_laws_Weave (qK)))))))))
 unfold laws_szStore at h0'
 refine Fn.start (fn:=f14) (N:=18) (res:=[.tmp 4]) rfl rfl rfl rfl rfl (by simp) ?_
 refine zU H' ?_
 refine zB ?_
 refine zA ?_
 refine ops H' ?_
 refine zE ?_
 refine zB ?_
 refine zA ?_
 refine ops H' ?_
 obtain ⟨x8,hy',h0'⟩:=zbi h0'
 refine zR H' (fun _=>[]) (W_laws_szCommitS _ _ _ hy') ?_
 refine ops H' ?_
 refine zE ?_
 refine zB ?_
 refine zB ?_
 refine zA ?_
 refine ops H' ?_
 refine zE ?_
 refine zH (fun hc'=>?_) (fun hc'=>?_)
 ·replace h0':=(ifT hc').symm.trans h0'
  refine zB ?_
  refine zA ?_
  refine ops H' ?_
  refine zE ?_
  refine zN ?_
  obtain rfl:=zso h0'
  exact zO H' rfl rfl
 ·replace h0':=(ifF hc').symm.trans h0'
  refine zM ?_
  refine zB ?_
  refine zA ?_
  refine ops H' ?_
  obtain ⟨x14,hy',h0'⟩:=zbi h0'
  refine zR H' (fun _=>[]) (W_laws_szWeaveS _ _ _ hy') ?_
  refine ops H' ?_
  refine zE ?_
  refine zB ?_
  refine zB ?_
  refine zA ?_
  refine ops H' ?_
  refine zE ?_
  refine zH (fun hc'=>?_) (fun hc'=>?_)
  ·replace h0':=(ifT hc').symm.trans h0'
   refine zB ?_
   refine zA ?_
   refine ops H' ?_
   refine zE ?_
   refine zN ?_
   obtain rfl:=zso h0'
   exact zO H' rfl rfl
  ·replace h0':=(ifF hc').symm.trans h0'
   refine zM ?_
   refine zB ?_
   refine zA ?_
   refine ops H' ?_
   refine zE ?_
   refine zN ?_
   obtain rfl:=zso h0'
   exact zO H' rfl rfl
theorem W_laws_toIntS (a:List Int) (r':(List Int)) (h0':laws_toIntS a=some r'):Fn X 230 [.one (.list false 1 (List.map (rK .i64) a))] [.one (.list true 1 (List.map (rK .i64) r'))] []:=by
 have H':=And.intro t3 (And.intro t40 (qK))
 unfold laws_toIntS at h0'
 refine Fn.start (fn:=f230) (N:=22) (res:=[.tmp 2]) rfl rfl rfl rfl rfl (by simp) ?_
 refine zU H' ?_
 refine zB ?_
 refine zA ?_
 refine ops H' ?_
 refine zE ?_
 refine zB ?_
 refine zA ?_
 obtain ⟨x7,hv',h0'⟩:=zbi h0'
 have H':=And.intro (mkl_f hv') H'
 refine ops H' ?_
 refine zE ?_
 refine zV (fun e'=>∃ out_,laws_toIntS_j1 out_=some r'∧e'=⟨22,1,2,[(3,.pl (.one (.ref 1 [])))],[(1,.list true 1 (List.map (rK .i64) out_))]⟩) ?_ ?_
 ·refine zB ?_
  refine zA ?_
  refine ops H' ?_
  refine zE ?_
  obtain ⟨p,hl',h0'⟩:=zbi h0'
  refine zI ?_
  refine zS (fun s' e'=>∃ i out__1,s'=(i,out__1)∧e'=⟨22,1,2,[(0,.pl (.one (.v (.list false 1 (List.map (rK .i64) a))))),(3,.pl (.one (.ref 1 []))),(4,.pl (.one (.v (.sc (.int .i64 i)))))],[(1,.list true 1 (List.map (rK .i64) out__1))]⟩) hl' (shd [0,3,4] [(2,1)] 2 ⟨_,_,rfl,rfl⟩) ?_
  rintro s' y1' e' h1' ⟨i,out__1,rfl,rfl⟩
  replace h1':laws_toIntS_l1 a i out__1=some y1':=h1'
  unfold laws_toIntS_l1 at h1'
  refine zB ?_
  refine zB ?_
  refine zA ?_
  refine ops H' ?_
  refine zE ?_
  refine zH (fun hc'=>?_) (fun hc'=>?_)
  ·replace h1':=(ifT hc').symm.trans h1'
   refine zM ?_
   refine zB ?_
   refine zI ?_
   refine zA ?_
   obtain ⟨x,hv',h1'⟩:=zbi h1'
   have H':=And.intro (zP hv') H'
   obtain ⟨x_1,hv',h1'⟩:=zbi h1'
   have H':=And.intro (zP hv') H'
   refine ops H' ?_
   refine zE ?_
   refine zA ?_
   refine ops H' ?_
   refine zE ?_
   obtain rfl:=zso h1'
   exact shd [0,3,4] [(1,1)] 2 ⟨_,rfl,_,_,rfl,rfl⟩
  ·replace h1':=(ifF hc').symm.trans h1'
   refine qJ ?_
   obtain rfl:=zso h1'
   refine ⟨_,rfl,fun hr'=>?_⟩
   subst hr'
   exact shd [3] [(1,1)] 2 ⟨_,h0',rfl⟩
 ·rintro e' ⟨out_,h0',rfl⟩
  unfold laws_toIntS_j1 at h0'
  refine zB ?_
  refine zA ?_
  refine ops H' ?_
  refine zE ?_
  refine zN ?_
  obtain rfl:=zso h0'
  exact zO H' rfl rfl
theorem W_laws_toName (a:T_laws_Name) (r':T_impl_Name) (h0':laws_toName a=some r'):Fn X 253 [.agg [.sc (.string a.Path),.sc (.int .i64 a.Id),.sc (.int .i64 a.Version)]] [.agg [.sc (.string r'.Path),.sc (.int .i64 r'.Id),.sc (.int .i64 r'.Version)]] []:=by
 have H':=And.intro t3 (And.intro t9 (And.intro t45 (t287)))
 unfold laws_toName at h0'
 refine Fn.start (fn:=f253) (N:=14) (res:=[.cell 2 45]) rfl rfl rfl rfl rfl (by simp) ?_
 refine zU H' ?_
 refine zB ?_
 refine zA ?_
 refine ops H' ?_
 refine zE ?_
 refine zB ?_
 refine zA ?_
 refine ops H' ?_
 refine zE ?_
 refine zB ?_
 refine zA ?_
 refine ops H' ?_
 refine zE ?_
 refine zB ?_
 refine zA ?_
 refine ops H' ?_
 refine zE ?_
 refine zB ?_
 refine zA ?_
 refine ops H' ?_
 refine zE ?_
 refine zB ?_
 refine zA ?_
 refine ops H' ?_
 refine zE ?_
 refine zN ?_
 obtain rfl:=zso h0'
 exact outC H' rfl rfl
theorem W_laws_toNameS (a:List T_laws_Name) (r':(List T_impl_Name)) (h0':laws_toNameS a=some r'):Fn X 231 [.one (.list false 3 (List.map (zY true) a))] [.one (.list true 3 (List.map (zJ true) r'))] []:=by
 have H':=And.intro t3 (And.intro t41 (And.intro t45 (And.intro t217 (And.intro t287 (And.intro zZ (R_T_laws_Name))))))
 unfold laws_toNameS at h0'
 refine Fn.start (fn:=f231) (N:=23) (res:=[.tmp 2]) rfl rfl rfl rfl rfl (by simp) ?_
 refine zU H' ?_
 refine zB ?_
 refine zA ?_
 refine opsV_nilA H' 3 ?_
 refine zE ?_
 refine zB ?_
 refine zA ?_
 obtain ⟨x7,hv',h0'⟩:=zbi h0'
 have H':=And.intro (mklR_f (zJ true) [.sc (.string (ByteArray.mk #[])),.sc (.int .i64 0),.sc (.int .i64 0)] (by rfl) hv') H'
 refine ops H' ?_
 refine zE ?_
 refine zV (fun e'=>∃ out_,laws_toNameS_j1 out_=some r'∧e'=⟨23,1,2,[(3,.pl (.one (.ref 1 [])))],[(1,.list true 3 (List.map (zJ true) out_))]⟩) ?_ ?_
 ·refine zB ?_
  refine zA ?_
  refine ops H' ?_
  refine zE ?_
  obtain ⟨p,hl',h0'⟩:=zbi h0'
  refine zI ?_
  refine zS (fun s' e'=>∃ i out__1,s'=(i,out__1)∧e'=⟨23,1,2,[(0,.pl (.one (.v (.list false 3 (List.map (zY true) a))))),(3,.pl (.one (.ref 1 []))),(4,.pl (.one (.v (.sc (.int .i64 i)))))],[(1,.list true 3 (List.map (zJ true) out__1))]⟩) hl' (shd [0,3,4] [(2,1)] 2 ⟨_,_,rfl,rfl⟩) ?_
  rintro s' y1' e' h1' ⟨i,out__1,rfl,rfl⟩
  replace h1':laws_toNameS_l1 a i out__1=some y1':=h1'
  unfold laws_toNameS_l1 at h1'
  refine zB ?_
  refine zB ?_
  refine zA ?_
  refine ops H' ?_
  refine zE ?_
  refine zH (fun hc'=>?_) (fun hc'=>?_)
  ·replace h1':=(ifT hc').symm.trans h1'
   refine zM ?_
   refine zB ?_
   refine zI ?_
   refine zA ?_
   obtain ⟨x,hv',h1'⟩:=zbi h1'
   have H':=And.intro (zP hv') H'
   refine ops H' ?_
   obtain ⟨x20,hy',h1'⟩:=zbi h1'
   refine zR H' (fun _=>[]) (W_laws_toName _ _ hy') ?_
   obtain ⟨x_1,hv',h1'⟩:=zbi h1'
   have H':=And.intro (zP hv') H'
   refine ops H' ?_
   refine zE ?_
   refine zA ?_
   refine ops H' ?_
   refine zE ?_
   obtain rfl:=zso h1'
   exact shd [0,3,4] [(1,1)] 2 ⟨_,rfl,_,_,rfl,rfl⟩
  ·replace h1':=(ifF hc').symm.trans h1'
   refine qJ ?_
   obtain rfl:=zso h1'
   refine ⟨_,rfl,fun hr'=>?_⟩
   subst hr'
   exact shd [3] [(1,1)] 2 ⟨_,h0',rfl⟩
 ·rintro e' ⟨out_,h0',rfl⟩
  unfold laws_toNameS_j1 at h0'
  refine zB ?_
  refine zA ?_
  refine ops H' ?_
  refine zE ?_
  refine zN ?_
  obtain rfl:=zso h0'
  exact zO H' rfl rfl
theorem W_laws_toCommit (a:T_laws_Commit) (r':T_impl_Commit) (h0':laws_toCommit a=some r'):Fn X 166 [.agg [.list false 1 (List.map (rK .i64) a.Parents),.sc (.string a.Note),.list false 3 (List.map (zY true) a.Names)]] [.agg [.list true 1 (List.map (rK .i64) r'.Parents),.sc (.string r'.Note),.list true 3 (List.map (zJ true) r'.Names)]] []:=by
 have H':=And.intro t9 (And.intro t40 (And.intro t41 (And.intro t43 (And.intro t217 (And.intro t219 (And.intro zZ (And.intro R_T_laws_Name (qK))))))))
 unfold laws_toCommit at h0'
 refine Fn.start (fn:=f166) (N:=16) (res:=[.cell 2 43]) rfl rfl rfl rfl rfl (by simp) ?_
 refine zU H' ?_
 refine zB ?_
 refine zA ?_
 refine ops H' ?_
 refine zE ?_
 refine zB ?_
 refine zA ?_
 refine ops H' ?_
 refine zE ?_
 refine zB ?_
 refine zA ?_
 refine ops H' ?_
 obtain ⟨x6,hy',h0'⟩:=zbi h0'
 refine zR H' (fun _=>[]) (W_laws_toIntS _ _ hy') ?_
 refine ops H' ?_
 refine zE ?_
 refine zB ?_
 refine zA ?_
 refine ops H' ?_
 refine zE ?_
 refine zB ?_
 refine zA ?_
 refine ops H' ?_
 obtain ⟨x13,hy',h0'⟩:=zbi h0'
 refine zR H' (fun _=>[]) (W_laws_toNameS _ _ hy') ?_
 refine ops H' ?_
 refine zE ?_
 refine zB ?_
 refine zA ?_
 refine ops H' ?_
 refine zE ?_
 refine zN ?_
 obtain rfl:=zso h0'
 exact outC H' rfl rfl
theorem W_laws_toCommitS (a:List T_laws_Commit) (r':(List T_impl_Commit)) (h0':laws_toCommitS a=some r'):Fn X 69 [.one (.list false 3 (List.map (zK false) a))] [.one (.list true 3 (List.map (zC true) r'))] []:=by
 have H':=And.intro t3 (And.intro t24 (And.intro t43 (And.intro t48 (And.intro t219 (And.intro qI (And.intro zZ (And.intro R_T_laws_Commit (And.intro R_T_laws_Name (qK)))))))))
 unfold laws_toCommitS at h0'
 refine Fn.start (fn:=f69) (N:=23) (res:=[.tmp 2]) rfl rfl rfl rfl rfl (by simp) ?_
 refine zU H' ?_
 refine zB ?_
 refine zA ?_
 refine opsV_nilA H' 3 ?_
 refine zE ?_
 refine zB ?_
 refine zA ?_
 obtain ⟨x7,hv',h0'⟩:=zbi h0'
 have H':=And.intro (mklR_f (zC true) [.list true 1 [],.sc (.string (ByteArray.mk #[])),.list true 3 []] (by rfl) hv') H'
 refine ops H' ?_
 refine zE ?_
 refine zV (fun e'=>∃ out_,laws_toCommitS_j1 out_=some r'∧e'=⟨23,1,2,[(3,.pl (.one (.ref 1 [])))],[(1,.list true 3 (List.map (zC true) out_))]⟩) ?_ ?_
 ·refine zB ?_
  refine zA ?_
  refine ops H' ?_
  refine zE ?_
  obtain ⟨p,hl',h0'⟩:=zbi h0'
  refine zI ?_
  refine zS (fun s' e'=>∃ i out__1,s'=(i,out__1)∧e'=⟨23,1,2,[(0,.pl (.one (.v (.list false 3 (List.map (zK false) a))))),(3,.pl (.one (.ref 1 []))),(4,.pl (.one (.v (.sc (.int .i64 i)))))],[(1,.list true 3 (List.map (zC true) out__1))]⟩) hl' (shd [0,3,4] [(2,1)] 2 ⟨_,_,rfl,rfl⟩) ?_
  rintro s' y1' e' h1' ⟨i,out__1,rfl,rfl⟩
  replace h1':jR a i out__1=some y1':=h1'
  unfold jR at h1'
  refine zB ?_
  refine zB ?_
  refine zA ?_
  refine ops H' ?_
  refine zE ?_
  refine zH (fun hc'=>?_) (fun hc'=>?_)
  ·replace h1':=(ifT hc').symm.trans h1'
   refine zM ?_
   refine zB ?_
   refine zI ?_
   refine zA ?_
   obtain ⟨x,hv',h1'⟩:=zbi h1'
   have H':=And.intro (zP hv') H'
   refine ops H' ?_
   obtain ⟨x20,hy',h1'⟩:=zbi h1'
   refine zR H' (fun _=>[]) (W_laws_toCommit _ _ hy') ?_
   obtain ⟨x_1,hv',h1'⟩:=zbi h1'
   have H':=And.intro (zP hv') H'
   refine ops H' ?_
   refine zE ?_
   refine zA ?_
   refine ops H' ?_
   refine zE ?_
   obtain rfl:=zso h1'
   exact shd [0,3,4] [(1,1)] 2 ⟨_,rfl,_,_,rfl,rfl⟩
  ·replace h1':=(ifF hc').symm.trans h1'
   refine qJ ?_
   obtain rfl:=zso h1'
   refine ⟨_,rfl,fun hr'=>?_⟩
   subst hr'
   exact shd [3] [(1,1)] 2 ⟨_,h0',rfl⟩
 ·rintro e' ⟨out_,h0',rfl⟩
  unfold laws_toCommitS_j1 at h0'
  refine zB ?_
  refine zA ?_
  refine ops H' ?_
  refine zE ?_
  refine zN ?_
  obtain rfl:=zso h0'
  exact zO H' rfl rfl
theorem W_laws_toIntSS (a:List (List Int)) (r':(List (List Int))) (h0':laws_toIntSS a=some r'):Fn X 232 [.one (.list false 1 (List.map (rL false 1 (rK .i64)) a))] [.one (.list true 1 (List.map (rL true 1 (rK .i64)) r'))] []:=by
 have H':=And.intro t3 (And.intro t33 (And.intro t40 (And.intro qT (qK))))
 unfold laws_toIntSS at h0'
 refine Fn.start (fn:=f232) (N:=23) (res:=[.tmp 2]) rfl rfl rfl rfl rfl (by simp) ?_
 refine zU H' ?_
 refine zB ?_
 refine zA ?_
 refine ops H' ?_
 refine zE ?_
 refine zB ?_
 refine zA ?_
 obtain ⟨x7,hv',h0'⟩:=zbi h0'
 have H':=And.intro (mklR_f (rL true 1 (rK .i64)) [.list true 1 []] (by rfl) hv') H'
 refine ops H' ?_
 refine zE ?_
 refine zV (fun e'=>∃ out_,laws_toIntSS_j1 out_=some r'∧e'=⟨23,1,2,[(3,.pl (.one (.ref 1 [])))],[(1,.list true 1 (List.map (rL true 1 (rK .i64)) out_))]⟩) ?_ ?_
 ·refine zB ?_
  refine zA ?_
  refine ops H' ?_
  refine zE ?_
  obtain ⟨p,hl',h0'⟩:=zbi h0'
  refine zI ?_
  refine zS (fun s' e'=>∃ i out__1,s'=(i,out__1)∧e'=⟨23,1,2,[(0,.pl (.one (.v (.list false 1 (List.map (rL false 1 (rK .i64)) a))))),(3,.pl (.one (.ref 1 []))),(4,.pl (.one (.v (.sc (.int .i64 i)))))],[(1,.list true 1 (List.map (rL true 1 (rK .i64)) out__1))]⟩) hl' (shd [0,3,4] [(2,1)] 2 ⟨_,_,rfl,rfl⟩) ?_
  rintro s' y1' e' h1' ⟨i,out__1,rfl,rfl⟩
  replace h1':laws_toIntSS_l1 a i out__1=some y1':=h1'
  unfold laws_toIntSS_l1 at h1'
  refine zB ?_
  refine zB ?_
  refine zA ?_
  refine ops H' ?_
  refine zE ?_
  refine zH (fun hc'=>?_) (fun hc'=>?_)
  ·replace h1':=(ifT hc').symm.trans h1'
   refine zM ?_
   refine zB ?_
   refine zI ?_
   refine zA ?_
   obtain ⟨x,hv',h1'⟩:=zbi h1'
   have H':=And.intro (zP hv') H'
   refine ops H' ?_
   obtain ⟨x20,hy',h1'⟩:=zbi h1'
   refine zR H' (fun _=>[]) (W_laws_toIntS _ _ hy') ?_
   obtain ⟨x_1,hv',h1'⟩:=zbi h1'
   have H':=And.intro (zP hv') H'
   refine ops H' ?_
   refine zE ?_
   refine zA ?_
   refine ops H' ?_
   refine zE ?_
   obtain rfl:=zso h1'
   exact shd [0,3,4] [(1,1)] 2 ⟨_,rfl,_,_,rfl,rfl⟩
  ·replace h1':=(ifF hc').symm.trans h1'
   refine qJ ?_
   obtain rfl:=zso h1'
   refine ⟨_,rfl,fun hr'=>?_⟩
   subst hr'
   exact shd [3] [(1,1)] 2 ⟨_,h0',rfl⟩
 ·rintro e' ⟨out_,h0',rfl⟩
  unfold laws_toIntSS_j1 at h0'
  refine zB ?_
  refine zA ?_
  refine ops H' ?_
  refine zE ?_
  refine zN ?_
  obtain rfl:=zso h0'
  exact zO H' rfl rfl
theorem W_laws_toBody (a:T_laws_Body) (r':T_impl_Body) (h0':laws_toBody a=some r'):Fn X 254 [.agg [.sc (.string a.Line),.sc (.int .i64 a.Ins),.sc (.int .i64 a.Ord),.list false 1 (List.map (rK .i64) a.Dels)]] [.agg [.sc (.string r'.Line),.sc (.int .i64 r'.Ins),.sc (.int .i64 r'.Ord),.list true 1 (List.map (rK .i64) r'.Dels)]] []:=by
 have H':=And.intro t3 (And.intro t9 (And.intro t40 (And.intro t73 (And.intro t289 (qK)))))
 unfold laws_toBody at h0'
 refine Fn.start (fn:=f254) (N:=18) (res:=[.cell 2 73]) rfl rfl rfl rfl rfl (by simp) ?_
 refine zU H' ?_
 refine zB ?_
 refine zA ?_
 refine ops H' ?_
 refine zE ?_
 refine zB ?_
 refine zA ?_
 refine ops H' ?_
 refine zE ?_
 refine zB ?_
 refine zA ?_
 refine ops H' ?_
 refine zE ?_
 refine zB ?_
 refine zA ?_
 refine ops H' ?_
 refine zE ?_
 refine zB ?_
 refine zA ?_
 refine ops H' ?_
 refine zE ?_
 refine zB ?_
 refine zA ?_
 refine ops H' ?_
 obtain ⟨x15,hy',h0'⟩:=zbi h0'
 refine zR H' (fun _=>[]) (W_laws_toIntS _ _ hy') ?_
 refine ops H' ?_
 refine zE ?_
 refine zB ?_
 refine zA ?_
 refine ops H' ?_
 refine zE ?_
 refine zN ?_
 obtain rfl:=zso h0'
 exact outC H' rfl rfl
theorem W_laws_toBodyS (a:List T_laws_Body) (r':(List T_impl_Body)) (h0':laws_toBodyS a=some r'):Fn X 233 [.one (.list false 4 (List.map (zT false) a))] [.one (.list true 4 (List.map (zF true) r'))] []:=by
 have H':=And.intro t3 (And.intro t34 (And.intro t73 (And.intro t221 (And.intro t289 (And.intro qL (And.intro R_T_laws_Body (qK)))))))
 unfold laws_toBodyS at h0'
 refine Fn.start (fn:=f233) (N:=23) (res:=[.tmp 2]) rfl rfl rfl rfl rfl (by simp) ?_
 refine zU H' ?_
 refine zB ?_
 refine zA ?_
 refine opsV_nilA H' 4 ?_
 refine zE ?_
 refine zB ?_
 refine zA ?_
 obtain ⟨x7,hv',h0'⟩:=zbi h0'
 have H':=And.intro (mklR_f (zF true) [.sc (.string (ByteArray.mk #[])),.sc (.int .i64 0),.sc (.int .i64 0),.list true 1 []] (by rfl) hv') H'
 refine ops H' ?_
 refine zE ?_
 refine zV (fun e'=>∃ out_,laws_toBodyS_j1 out_=some r'∧e'=⟨23,1,2,[(3,.pl (.one (.ref 1 [])))],[(1,.list true 4 (List.map (zF true) out_))]⟩) ?_ ?_
 ·refine zB ?_
  refine zA ?_
  refine ops H' ?_
  refine zE ?_
  obtain ⟨p,hl',h0'⟩:=zbi h0'
  refine zI ?_
  refine zS (fun s' e'=>∃ i out__1,s'=(i,out__1)∧e'=⟨23,1,2,[(0,.pl (.one (.v (.list false 4 (List.map (zT false) a))))),(3,.pl (.one (.ref 1 []))),(4,.pl (.one (.v (.sc (.int .i64 i)))))],[(1,.list true 4 (List.map (zF true) out__1))]⟩) hl' (shd [0,3,4] [(2,1)] 2 ⟨_,_,rfl,rfl⟩) ?_
  rintro s' y1' e' h1' ⟨i,out__1,rfl,rfl⟩
  replace h1':laws_toBodyS_l1 a i out__1=some y1':=h1'
  unfold laws_toBodyS_l1 at h1'
  refine zB ?_
  refine zB ?_
  refine zA ?_
  refine ops H' ?_
  refine zE ?_
  refine zH (fun hc'=>?_) (fun hc'=>?_)
  ·replace h1':=(ifT hc').symm.trans h1'
   refine zM ?_
   refine zB ?_
   refine zI ?_
   refine zA ?_
   obtain ⟨x,hv',h1'⟩:=zbi h1'
   have H':=And.intro (zP hv') H'
   refine ops H' ?_
   obtain ⟨x20,hy',h1'⟩:=zbi h1'
   refine zR H' (fun _=>[]) (W_laws_toBody _ _ hy') ?_
   obtain ⟨x_1,hv',h1'⟩:=zbi h1'
   have H':=And.intro (zP hv') H'
   refine ops H' ?_
   refine zE ?_
   refine zA ?_
   refine ops H' ?_
   refine zE ?_
   obtain rfl:=zso h1'
   exact shd [0,3,4] [(1,1)] 2 ⟨_,rfl,_,_,rfl,rfl⟩
  ·replace h1':=(ifF hc').symm.trans h1'
   refine qJ ?_
   obtain rfl:=zso h1'
   refine ⟨_,rfl,fun hr'=>?_⟩
   subst hr'
   exact shd [3] [(1,1)] 2 ⟨_,h0',rfl⟩
 ·rintro e' ⟨out_,h0',rfl⟩
  unfold laws_toBodyS_j1 at h0'
  refine zB ?_
  refine zA ?_
  refine ops H' ?_
  refine zE ?_
  refine zN ?_
  obtain rfl:=zso h0'
  exact zO H' rfl rfl
theorem W_laws_toWeave (a:T_laws_Weave) (r':T_impl_Weave) (h0':laws_toWeave a=some r'):Fn X 167 [.agg [.list false 1 (List.map (rL false 1 (rK .i64)) a.Parents),.list false 4 (List.map (zT false) a.Bodies)]] [.agg [.list true 1 (List.map (rL true 1 (rK .i64)) r'.Parents),.list true 4 (List.map (zF true) r'.Bodies)]] []:=by
 have H':=And.intro t33 (And.intro t34 (And.intro t36 (And.intro t221 (And.intro t223 (And.intro qT (And.intro qL (And.intro R_T_laws_Body (qK))))))))
 unfold laws_toWeave at h0'
 refine Fn.start (fn:=f167) (N:=13) (res:=[.cell 2 36]) rfl rfl rfl rfl rfl (by simp) ?_
 refine zU H' ?_
 refine zB ?_
 refine zA ?_
 refine ops H' ?_
 refine zE ?_
 refine zB ?_
 refine zA ?_
 refine ops H' ?_
 refine zE ?_
 refine zB ?_
 refine zA ?_
 refine ops H' ?_
 obtain ⟨x6,hy',h0'⟩:=zbi h0'
 refine zR H' (fun _=>[]) (W_laws_toIntSS _ _ hy') ?_
 refine ops H' ?_
 refine zE ?_
 refine zB ?_
 refine zA ?_
 refine ops H' ?_
 obtain ⟨x10,hy',h0'⟩:=zbi h0'
 refine zR H' (fun _=>[]) (W_laws_toBodyS _ _ hy') ?_
 refine ops H' ?_
 refine zE ?_
 refine zB ?_
 refine zA ?_
 refine ops H' ?_
 refine zE ?_
 refine zN ?_
 obtain rfl:=zso h0'
 exact outC H' rfl rfl
theorem W_laws_toWeaveS (a:List T_laws_Weave) (r':(List T_impl_Weave)) (h0':laws_toWeaveS a=some r'):Fn X 70 [.one (.list false 2 (List.map (zL false) a))] [.one (.list true 2 (List.map (zD true) r'))] []:=by
 have H':=And.intro t3 (And.intro t25 (And.intro t36 (And.intro t49 (And.intro t223 (And.intro qT (And.intro qL (And.intro qV (And.intro R_T_laws_Body (And.intro R_T_laws_Weave (qK))))))))))
 unfold laws_toWeaveS at h0'
 refine Fn.start (fn:=f70) (N:=23) (res:=[.tmp 2]) rfl rfl rfl rfl rfl (by simp) ?_
 refine zU H' ?_
 refine zB ?_
 refine zA ?_
 refine opsV_nilA H' 2 ?_
 refine zE ?_
 refine zB ?_
 refine zA ?_
 obtain ⟨x7,hv',h0'⟩:=zbi h0'
 have H':=And.intro (mklR_f (zD true) [.list true 1 [],.list true 4 []] (by rfl) hv') H'
 refine ops H' ?_
 refine zE ?_
 refine zV (fun e'=>∃ out_,laws_toWeaveS_j1 out_=some r'∧e'=⟨23,1,2,[(3,.pl (.one (.ref 1 [])))],[(1,.list true 2 (List.map (zD true) out_))]⟩) ?_ ?_
 ·refine zB ?_
  refine zA ?_
  refine ops H' ?_
  refine zE ?_
  obtain ⟨p,hl',h0'⟩:=zbi h0'
  refine zI ?_
  refine zS (fun s' e'=>∃ i out__1,s'=(i,out__1)∧e'=⟨23,1,2,[(0,.pl (.one (.v (.list false 2 (List.map (zL false) a))))),(3,.pl (.one (.ref 1 []))),(4,.pl (.one (.v (.sc (.int .i64 i)))))],[(1,.list true 2 (List.map (zD true) out__1))]⟩) hl' (shd [0,3,4] [(2,1)] 2 ⟨_,_,rfl,rfl⟩) ?_
  rintro s' y1' e' h1' ⟨i,out__1,rfl,rfl⟩
  replace h1':laws_toWeaveS_l1 a i out__1=some y1':=h1'
  unfold laws_toWeaveS_l1 at h1'
  refine zB ?_
  refine zB ?_
  refine zA ?_
  refine ops H' ?_
  refine zE ?_
  refine zH (fun hc'=>?_) (fun hc'=>?_)
  ·replace h1':=(ifT hc').symm.trans h1'
   refine zM ?_
   refine zB ?_
   refine zI ?_
   refine zA ?_
   obtain ⟨x,hv',h1'⟩:=zbi h1'
   have H':=And.intro (zP hv') H'
   refine ops H' ?_
   obtain ⟨x20,hy',h1'⟩:=zbi h1'
   refine zR H' (fun _=>[]) (W_laws_toWeave _ _ hy') ?_
   obtain ⟨x_1,hv',h1'⟩:=zbi h1'
   have H':=And.intro (zP hv') H'
   refine ops H' ?_
   refine zE ?_
   refine zA ?_
   refine ops H' ?_
   refine zE ?_
   obtain rfl:=zso h1'
   exact shd [0,3,4] [(1,1)] 2 ⟨_,rfl,_,_,rfl,rfl⟩
  ·replace h1':=(ifF hc').symm.trans h1'
   refine qJ ?_
   obtain rfl:=zso h1'
   refine ⟨_,rfl,fun hr'=>?_⟩
   subst hr'
   exact shd [3] [(1,1)] 2 ⟨_,h0',rfl⟩
 ·rintro e' ⟨out_,h0',rfl⟩
  unfold laws_toWeaveS_j1 at h0'
  refine zB ?_
  refine zA ?_
  refine ops H' ?_
  refine zE ?_
  refine zN ?_
  obtain rfl:=zso h0'
  exact zO H' rfl rfl
theorem W_laws_toStore (a:T_laws_Store) (r':T_impl_Store) (h0':laws_toStore a=some r'):Fn X 16 [.agg [.list false 3 (List.map (zK false) a.Commits),.list false 2 (List.map (zL false) a.Files)]] [.agg [.list true 3 (List.map (zC true) r'.Commits),.list true 2 (List.map (zD true) r'.Files)]] []:=by
 have H':=And.intro t24 (And.intro t25 (And.intro t27 (And.intro t48 (And.intro t49 (And.intro t51 (And.intro qT (And.intro qL (And.intro qI (And.intro zZ (And.intro qV (And.intro R_T_laws_Body (And.intro R_T_laws_Commit (And.intro R_T_laws_Name (And.intro R_T_laws_Weave (qK)))))))))))))))
 unfold laws_toStore at h0'
 refine Fn.start (fn:=f16) (N:=13) (res:=[.cell 2 27]) rfl rfl rfl rfl rfl (by simp) ?_
 refine zU H' ?_
 refine zB ?_
 refine zA ?_
 refine ops H' ?_
 refine zE ?_
 refine zB ?_
 refine zA ?_
 refine ops H' ?_
 refine zE ?_
 refine zB ?_
 refine zA ?_
 refine ops H' ?_
 obtain ⟨x6,hy',h0'⟩:=zbi h0'
 refine zR H' (fun _=>[]) (W_laws_toCommitS _ _ hy') ?_
 refine ops H' ?_
 refine zE ?_
 refine zB ?_
 refine zA ?_
 refine ops H' ?_
 obtain ⟨x10,hy',h0'⟩:=zbi h0'
 refine zR H' (fun _=>[]) (W_laws_toWeaveS _ _ hy') ?_
 refine ops H' ?_
 refine zE ?_
 refine zB ?_
 refine zA ?_
 refine ops H' ?_
 refine zE ?_
 refine zN ?_
 obtain rfl:=zso h0'
 exact outC H' rfl rfl
theorem W_spec_l01In (x:Int) (least:Int) (most:Int) (r':Bool) (h0':spec_l01In x least most=some r'):Fn X 103 [.one (.sc (.int .i64 x)),.one (.sc (.int .i64 least)),.one (.sc (.int .i64 most))] [.one (.sc (.bool r'))] []:=by
 have H':=t3
 unfold spec_l01In at h0'
 refine Fn.start (fn:=f103) (N:=15) (res:=[.tmp 6]) rfl rfl rfl rfl rfl (by simp) ?_
 refine zU H' ?_
 refine zB ?_
 refine zA ?_
 refine ops H' ?_
 refine zE ?_
 refine zB ?_
 refine zA ?_
 refine ops H' ?_
 obtain ⟨b,gh0',h0'⟩:=zbi h0'
 refine qC 4 (fun e'=>e'=⟨15,3,3,[(14,.pl (.one (.v (.sc (.bool b)))))],[]⟩) ?_ ?_
 ·simp only [List.take_succ_cons,List.take_zero]
  refine qE (fun hc'=>?_) (fun hc'=>?_)
  ·replace gh0':=(ifT hc').symm.trans gh0'
   refine ops H' ?_
   obtain rfl:=zso gh0'
   refine zG ?_
   exact ⟨rfl,shd [14] [] 3 rfl⟩
  ·replace gh0':=(ifF hc').symm.trans gh0'
   refine ops H' ?_
   obtain rfl:=zso gh0'
   refine zG ?_
   exact ⟨rfl,shd [14] [] 3 rfl⟩
 ·rintro e' rfl
  simp only [List.drop_succ_cons,List.drop_zero]
  refine ops H' ?_
  refine zE ?_
  refine zN ?_
  obtain rfl:=zso h0'
  exact zO H' rfl rfl
theorem W_spec_l05Rise (list_:List Int) (n:Int) (r':Bool) (h0':spec_l05Rise list_ n=some r'):Fn X 146 [.one (.list false 1 (List.map (rK .i64) list_)),.one (.sc (.int .i64 n))] [.one (.sc (.bool r'))] []:=by
 have H':=And.intro t3 (And.intro t40 (qK))
 unfold spec_l05Rise at h0'
 refine Fn.start (fn:=f146) (N:=36) (res:=[.tmp 4]) rfl rfl rfl rfl rfl (by simp) ?_
 refine zU H' ?_
 refine zB ?_
 refine zA ?_
 refine ops H' ?_
 refine zE ?_
 refine zV (fun e'=>spec_l05Rise_j1=some r'∧e'=⟨36,2,2,[],[]⟩) ?_ ?_
 ·refine zB ?_
  refine zA ?_
  refine ops H' ?_
  refine zE ?_
  obtain ⟨p,hl',h0'⟩:=zbi h0'
  refine zI ?_
  refine zS (fun i e'=>e'=⟨36,2,2,[(0,.pl (.one (.v (.list false 1 (List.map (rK .i64) list_))))),(1,.pl (.one (.v (.sc (.int .i64 n))))),(5,.pl (.one (.v (.sc (.int .i64 i)))))],[]⟩) hl' (shd [0,1,5] [] 2 rfl) ?_
  rintro i y1' e' h1' rfl
  replace h1':jG list_ n i=some y1':=h1'
  unfold jG at h1'
  refine zB ?_
  refine zB ?_
  refine zA ?_
  refine ops H' ?_
  refine zE ?_
  refine zH (fun hc'=>?_) (fun hc'=>?_)
  ·replace h1':=(ifT hc').symm.trans h1'
   refine zM ?_
   refine zB ?_
   refine zI ?_
   refine zB ?_
   refine regQ ?_
   obtain ⟨x,hv',h1'⟩:=zbi h1'
   have H':=And.intro (zP hv') H'
   refine ops H' ?_
   obtain ⟨x18,hy',h1'⟩:=zbi h1'
   refine callGQ H' (W_spec_l01In _ _ _ _ hy') ?_
   refine ops H' ?_
   obtain ⟨b,gh1',h1'⟩:=zbi h1'
   refine quV_cut 15 (fun e'=>e'=⟨36,2,2,[(0,.pl (.one (.v (.list false 1 (List.map (rK .i64) list_))))),(1,.pl (.one (.v (.sc (.int .i64 n))))),(5,.pl (.one (.v (.sc (.int .i64 i))))),(35,.pl (.one (.v (.sc (.bool b)))))],[]⟩) ?_ ?_
   ·simp only [List.take_succ_cons,List.take_zero]
    refine quV_sp (fun hc'=>?_) (fun hc'=>?_)
    ·replace gh1':=(ifF hc').symm.trans gh1'
     refine ops H' ?_
     obtain ⟨b_1,ggh1',gh1'⟩:=zbi gh1'
     refine quV_cut 11 (fun e'=>e'=⟨36,2,2,[(0,.pl (.one (.v (.list false 1 (List.map (rK .i64) list_))))),(1,.pl (.one (.v (.sc (.int .i64 n))))),(5,.pl (.one (.v (.sc (.int .i64 i))))),(20,.pl (.one (.v (.sc (.bool false))))),(21,.pl (.one (.v (.sc (.int .i64 i))))),(22,.pl (.one (.v (.sc (.bool (decide (i > 0))))))),(34,.pl (.one (.v (.sc (.bool b_1)))))],[]⟩) ?_ ?_
     ·simp only [List.take_succ_cons,List.take_zero]
      refine quV_sp (fun hc'=>?_) (fun hc'=>?_)
      ·replace ggh1':=(ifT hc').symm.trans ggh1'
       obtain ⟨x_1,hv',ggh1'⟩:=zbi ggh1'
       have H':=And.intro (zP hv') H'
       refine ops H' ?_
       obtain rfl:=zso ggh1'
       refine qU ?_
       exact ⟨rfl,shd [0,1,5,20,21,22,34] [] 2 rfl⟩
      ·replace ggh1':=(ifF hc').symm.trans ggh1'
       refine ops H' ?_
       obtain rfl:=zso ggh1'
       refine qU ?_
       exact ⟨rfl,shd [0,1,5,20,21,22,34] [] 2 rfl⟩
     ·rintro e' rfl
      simp only [List.drop_succ_cons,List.drop_zero]
      refine ops H' ?_
      obtain rfl:=zso gh1'
      refine qU ?_
      exact ⟨rfl,shd [0,1,5,35] [] 2 rfl⟩
    ·replace gh1':=(ifT hc').symm.trans gh1'
     refine ops H' ?_
     obtain rfl:=zso gh1'
     refine qU ?_
     exact ⟨rfl,shd [0,1,5,35] [] 2 rfl⟩
   ·rintro e' rfl
    simp only [List.drop_succ_cons,List.drop_zero]
    refine quN ?_
    refine zH (fun hc'=>?_) (fun hc'=>?_)
    ·replace h1':=(ifT hc').symm.trans h1'
     refine zB ?_
     refine zA ?_
     refine ops H' ?_
     refine zE ?_
     refine zN ?_
     obtain rfl:=zso h1'
     refine ⟨_,rfl,fun hr'=>?_⟩
     subst hr'
     obtain rfl:=zso h0'
     exact zO H' rfl rfl
    ·replace h1':=(ifF hc').symm.trans h1'
     refine zM ?_
     refine zA ?_
     refine ops H' ?_
     refine zE ?_
     obtain rfl:=zso h1'
     exact shd [0,1,5] [] 2 ⟨_,rfl,rfl⟩
  ·replace h1':=(ifF hc').symm.trans h1'
   refine qJ ?_
   obtain rfl:=zso h1'
   refine ⟨_,rfl,fun hr'=>?_⟩
   subst hr'
   exact shd [] [] 2 ⟨h0',rfl⟩
 ·rintro e' ⟨h0',rfl⟩
  unfold spec_l05Rise_j1 at h0'
  refine zB ?_
  refine zA ?_
  refine ops H' ?_
  refine zE ?_
  refine zN ?_
  obtain rfl:=zso h0'
  exact zO H' rfl rfl
theorem W_spec_GraphOk (parents:List (List Int)) (r':Bool) (h0':spec_GraphOk parents=some r'):Fn X 143 [.one (.list false 1 (List.map (rL false 1 (rK .i64)) parents))] [.one (.sc (.bool r'))] []:=by
 have H':=And.intro t3 (And.intro t33 (And.intro t40 (And.intro qT (qK))))
 unfold spec_GraphOk at h0'
 refine Fn.start (fn:=f143) (N:=28) (res:=[.tmp 2]) rfl rfl rfl rfl rfl (by simp) ?_
 refine zU H' ?_
 refine zB ?_
 refine zA ?_
 refine ops H' ?_
 refine zE ?_
 refine zB ?_
 refine zB ?_
 refine zA ?_
 refine ops H' ?_
 refine zE ?_
 refine zH (fun hc'=>?_) (fun hc'=>?_)
 ·replace h0':=(ifT hc').symm.trans h0'
  refine zB ?_
  refine zA ?_
  refine ops H' ?_
  refine zE ?_
  refine zN ?_
  obtain rfl:=zso h0'
  exact zO H' rfl rfl
 ·replace h0':=(ifF hc').symm.trans h0'
  refine zM ?_
  refine zV (fun e'=>spec_GraphOk_j1=some r'∧e'=⟨28,1,1,[],[]⟩) ?_ ?_
  ·refine zB ?_
   refine zA ?_
   refine ops H' ?_
   refine zE ?_
   obtain ⟨p,hl',h0'⟩:=zbi h0'
   refine zI ?_
   refine zS (fun v e'=>e'=⟨28,1,1,[(0,.pl (.one (.v (.list false 1 (List.map (rL false 1 (rK .i64)) parents))))),(3,.pl (.one (.v (.sc (.int .i64 v)))))],[]⟩) hl' (shd [0,3] [] 1 rfl) ?_
   rintro v y1' e' h1' rfl
   replace h1':jI parents v=some y1':=h1'
   unfold jI at h1'
   refine zB ?_
   refine zB ?_
   refine zA ?_
   refine ops H' ?_
   refine zE ?_
   refine zH (fun hc'=>?_) (fun hc'=>?_)
   ·replace h1':=(ifT hc').symm.trans h1'
    refine zM ?_
    refine zB ?_
    refine zI ?_
    refine zB ?_
    refine zA ?_
    obtain ⟨x,hv',h1'⟩:=zbi h1'
    have H':=And.intro (zP hv') H'
    refine ops H' ?_
    obtain ⟨b,gh1',h1'⟩:=zbi h1'
    refine qC 8 (fun e'=>e'=⟨28,1,1,[(0,.pl (.one (.v (.list false 1 (List.map (rL false 1 (rK .i64)) parents))))),(3,.pl (.one (.v (.sc (.int .i64 v))))),(27,.pl (.one (.v (.sc (.bool b)))))],[]⟩) ?_ ?_
    ·simp only [List.take_succ_cons,List.take_zero]
     refine qE (fun hc'=>?_) (fun hc'=>?_)
     ·replace gh1':=(ifF hc').symm.trans gh1'
      refine ops H' ?_
      obtain ⟨x25,hy',gh1'⟩:=zbi gh1'
      refine zR H' (fun _=>[]) (W_spec_l05Rise _ _ _ hy') ?_
      refine ops H' ?_
      obtain rfl:=zso gh1'
      refine zG ?_
      exact ⟨rfl,shd [0,3,27] [] 1 rfl⟩
     ·replace gh1':=(ifT hc').symm.trans gh1'
      refine ops H' ?_
      obtain rfl:=zso gh1'
      refine zG ?_
      exact ⟨rfl,shd [0,3,27] [] 1 rfl⟩
    ·rintro e' rfl
     simp only [List.drop_succ_cons,List.drop_zero]
     refine zE ?_
     refine zH (fun hc'=>?_) (fun hc'=>?_)
     ·replace h1':=(ifT hc').symm.trans h1'
      refine zB ?_
      refine zA ?_
      refine ops H' ?_
      refine zE ?_
      refine zN ?_
      obtain rfl:=zso h1'
      refine ⟨_,rfl,fun hr'=>?_⟩
      subst hr'
      obtain rfl:=zso h0'
      exact zO H' rfl rfl
     ·replace h1':=(ifF hc').symm.trans h1'
      refine zM ?_
      refine zA ?_
      refine ops H' ?_
      refine zE ?_
      obtain rfl:=zso h1'
      exact shd [0,3] [] 1 ⟨_,rfl,rfl⟩
   ·replace h1':=(ifF hc').symm.trans h1'
    refine qJ ?_
    obtain rfl:=zso h1'
    refine ⟨_,rfl,fun hr'=>?_⟩
    subst hr'
    exact shd [] [] 1 ⟨h0',rfl⟩
  ·rintro e' ⟨h0',rfl⟩
   unfold spec_GraphOk_j1 at h0'
   refine zB ?_
   refine zA ?_
   refine ops H' ?_
   refine zE ?_
   refine zN ?_
   obtain rfl:=zso h0'
   exact zO H' rfl rfl
theorem W_spec_l05Set (parents:List (List Int)) (list_:List Int) (r':(List Bool)) (h0':spec_l05Set parents list_=some r'):Fn X 144 [.one (.list false 1 (List.map (rL false 1 (rK .i64)) parents)),.one (.list false 1 (List.map (rK .i64) list_))] [.one (.list true 1 (List.map rB r'))] []:=by
 have H':=And.intro t3 (And.intro t4 (And.intro t33 (And.intro t40 (And.intro t202 (And.intro qT (And.intro R_b (qK)))))))
 unfold spec_l05Set at h0'
 refine Fn.start (fn:=f144) (N:=64) (res:=[.tmp 4]) rfl rfl rfl rfl rfl (by simp) ?_
 refine zU H' ?_
 refine zB ?_
 refine zA ?_
 refine ops H' ?_
 refine zE ?_
 refine zB ?_
 refine zA ?_
 obtain ⟨x11,hv',h0'⟩:=zbi h0'
 have H':=And.intro (mkl_f hv') H'
 refine ops H' ?_
 refine zE ?_
 refine zV (fun e'=>∃ in_,spec_l05Set_j1 parents in_=some r'∧e'=⟨64,2,3,[(0,.pl (.one (.v (.list false 1 (List.map (rL false 1 (rK .i64)) parents))))),(5,.pl (.one (.ref 2 [])))],[(2,.list true 1 (List.map rB in_))]⟩) ?_ ?_
 ·refine zB ?_
  refine zA ?_
  refine ops H' ?_
  refine zE ?_
  obtain ⟨p_2,hl',h0'⟩:=zbi h0'
  refine zI ?_
  refine zS (fun s' e'=>∃ i in__5,s'=(i,in__5)∧e'=⟨64,2,3,[(0,.pl (.one (.v (.list false 1 (List.map (rL false 1 (rK .i64)) parents))))),(1,.pl (.one (.v (.list false 1 (List.map (rK .i64) list_))))),(5,.pl (.one (.ref 2 []))),(6,.pl (.one (.v (.sc (.int .i64 i)))))],[(2,.list true 1 (List.map rB in__5))]⟩) hl' (shd [0,1,5,6] [(3,2)] 3 ⟨_,_,rfl,rfl⟩) ?_
  rintro s' y1' e' h1' ⟨i,in__5,rfl,rfl⟩
  replace h1':spec_l05Set_l3 parents list_ i in__5=some y1':=h1'
  unfold spec_l05Set_l3 at h1'
  refine zB ?_
  refine zB ?_
  refine zA ?_
  refine ops H' ?_
  refine zE ?_
  refine zH (fun hc'=>?_) (fun hc'=>?_)
  ·replace h1':=(ifT hc').symm.trans h1'
   refine zM ?_
   refine zB ?_
   refine zI ?_
   refine zB ?_
   refine zA ?_
   obtain ⟨x_5,hv',h1'⟩:=zbi h1'
   have H':=And.intro (zP hv') H'
   refine ops H' ?_
   obtain ⟨x25,hy',h1'⟩:=zbi h1'
   refine zR H' (fun _=>[]) (W_spec_l01In _ _ _ _ hy') ?_
   refine zE ?_
   refine zH (fun hc'=>?_) (fun hc'=>?_)
   ·replace h1':=(ifT hc').symm.trans h1'
    refine zA ?_
    obtain ⟨x_6,hv',h1'⟩:=zbi h1'
    have H':=And.intro (zP hv') H'
    refine ops H' ?_
    refine zE ?_
    refine zA ?_
    refine ops H' ?_
    refine zE ?_
    obtain rfl:=zso h1'
    exact shd [0,1,5,6] [(2,2)] 3 ⟨_,rfl,_,_,rfl,rfl⟩
   ·replace h1':=(ifF hc').symm.trans h1'
    refine zM ?_
    refine zA ?_
    refine ops H' ?_
    refine zE ?_
    obtain rfl:=zso h1'
    exact shd [0,1,5,6] [(2,2)] 3 ⟨_,rfl,_,_,rfl,rfl⟩
  ·replace h1':=(ifF hc').symm.trans h1'
   refine qJ ?_
   obtain rfl:=zso h1'
   refine ⟨_,rfl,fun hr'=>?_⟩
   subst hr'
   exact shd [0,5] [(2,2)] 3 ⟨_,h0',rfl⟩
 ·rintro e' ⟨in_,h0',rfl⟩
  unfold spec_l05Set_j1 at h0'
  refine zV (fun e'=>∃ in__1,spec_l05Set_j2 in__1=some r'∧e'=⟨64,2,3,[(5,.pl (.one (.ref 2 [])))],[(2,.list true 1 (List.map rB in__1))]⟩) ?_ ?_
  ·refine zB ?_
   refine zA ?_
   refine ops H' ?_
   refine zE ?_
   obtain ⟨p,hl',h0'⟩:=zbi h0'
   refine zI ?_
   refine zS (fun s' e'=>∃ v in__2,s'=(v,in__2)∧e'=⟨64,2,3,[(0,.pl (.one (.v (.list false 1 (List.map (rL false 1 (rK .i64)) parents))))),(5,.pl (.one (.ref 2 []))),(7,.pl (.one (.v (.sc (.int .i64 v)))))],[(2,.list true 1 (List.map rB in__2))]⟩) hl' (shd [0,5,7] [(2,2)] 3 ⟨_,_,rfl,rfl⟩) ?_
   rintro s' y1' e' h1' ⟨v,in__2,rfl,rfl⟩
   replace h1':spec_l05Set_l1 parents v in__2=some y1':=h1'
   unfold spec_l05Set_l1 at h1'
   refine zB ?_
   refine zB ?_
   refine zA ?_
   refine ops H' ?_
   refine zE ?_
   refine zH (fun hc'=>?_) (fun hc'=>?_)
   ·replace h1':=(ifT hc').symm.trans h1'
    refine zM ?_
    refine zV (fun e'=>∃ in__3,spec_l05Set_j3 v in__3=some y1'∧e'=⟨64,2,3,[(0,.pl (.one (.v (.list false 1 (List.map (rL false 1 (rK .i64)) parents))))),(5,.pl (.one (.ref 2 []))),(7,.pl (.one (.v (.sc (.int .i64 v)))))],[(2,.list true 1 (List.map rB in__3))]⟩) ?_ ?_
    ·refine zI ?_
     refine zB ?_
     refine zA ?_
     refine ops H' ?_
     refine zE ?_
     obtain ⟨p_1,hl',h1'⟩:=zbi h1'
     refine zI ?_
     refine zS (fun s' e'=>∃ k in__4,s'=(k,in__4)∧e'=⟨64,2,3,[(0,.pl (.one (.v (.list false 1 (List.map (rL false 1 (rK .i64)) parents))))),(5,.pl (.one (.ref 2 []))),(7,.pl (.one (.v (.sc (.int .i64 v))))),(8,.pl (.one (.v (.sc (.int .i64 k)))))],[(2,.list true 1 (List.map rB in__4))]⟩) hl' (shd [0,5,7,8] [(2,2)] 3 ⟨_,_,rfl,rfl⟩) ?_
     rintro s' y2' e' h2' ⟨k,in__4,rfl,rfl⟩
     replace h2':spec_l05Set_l2 parents v k in__4=some y2':=h2'
     unfold spec_l05Set_l2 at h2'
     refine zB ?_
     refine zB ?_
     refine zA ?_
     obtain ⟨x,hv',h2'⟩:=zbi h2'
     have H':=And.intro (zP hv') H'
     refine ops H' ?_
     obtain ⟨b,gh2',h2'⟩:=zbi h2'
     refine qC 5 (fun e'=>e'=⟨64,2,3,[(0,.pl (.one (.v (.list false 1 (List.map (rL false 1 (rK .i64)) parents))))),(5,.pl (.one (.ref 2 []))),(7,.pl (.one (.v (.sc (.int .i64 v))))),(8,.pl (.one (.v (.sc (.int .i64 k))))),(51,.pl (.one (.v (.sc (.bool b)))))],[(2,.list true 1 (List.map rB in__4))]⟩) ?_ ?_
     ·simp only [List.take_succ_cons,List.take_zero]
      refine qE (fun hc'=>?_) (fun hc'=>?_)
      ·replace gh2':=(ifT hc').symm.trans gh2'
       obtain ⟨x_1,hv',gh2'⟩:=zbi gh2'
       have H':=And.intro (zP hv') H'
       refine ops H' ?_
       obtain rfl:=zso gh2'
       refine zG ?_
       exact ⟨rfl,shd [0,5,7,8,51] [(2,2)] 3 rfl⟩
      ·replace gh2':=(ifF hc').symm.trans gh2'
       refine ops H' ?_
       obtain rfl:=zso gh2'
       refine zG ?_
       exact ⟨rfl,shd [0,5,7,8,51] [(2,2)] 3 rfl⟩
     ·rintro e' rfl
      simp only [List.drop_succ_cons,List.drop_zero]
      refine zE ?_
      refine zH (fun hc'=>?_) (fun hc'=>?_)
      ·replace h2':=(ifT hc').symm.trans h2'
       refine zM ?_
       refine zB ?_
       refine zI ?_
       refine zA ?_
       obtain ⟨x_2,hv',h2'⟩:=zbi h2'
       have H':=And.intro (zP hv') H'
       obtain ⟨x_3,hv',h2'⟩:=zbi h2'
       have H':=And.intro (zP hv') H'
       obtain ⟨x_4,hv',h2'⟩:=zbi h2'
       have H':=And.intro (zP hv') H'
       refine ops H' ?_
       refine zE ?_
       refine zA ?_
       refine ops H' ?_
       refine zE ?_
       obtain rfl:=zso h2'
       exact shd [0,5,7,8] [(2,2)] 3 ⟨_,rfl,_,_,rfl,rfl⟩
      ·replace h2':=(ifF hc').symm.trans h2'
       refine qJ ?_
       obtain rfl:=zso h2'
       refine ⟨_,rfl,fun hr'=>?_⟩
       subst hr'
       exact shd [0,5,7] [(2,2)] 3 ⟨_,h1',rfl⟩
    ·rintro e' ⟨in__3,h1',rfl⟩
     unfold spec_l05Set_j3 at h1'
     refine zA ?_
     refine ops H' ?_
     refine zE ?_
     obtain rfl:=zso h1'
     exact shd [0,5,7] [(2,2)] 3 ⟨_,rfl,_,_,rfl,rfl⟩
   ·replace h1':=(ifF hc').symm.trans h1'
    refine qJ ?_
    obtain rfl:=zso h1'
    refine ⟨_,rfl,fun hr'=>?_⟩
    subst hr'
    exact shd [5] [(2,2)] 3 ⟨_,h0',rfl⟩
  ·rintro e' ⟨in__1,h0',rfl⟩
   unfold spec_l05Set_j2 at h0'
   refine zB ?_
   refine zA ?_
   refine ops H' ?_
   refine zE ?_
   refine zN ?_
   obtain rfl:=zso h0'
   exact zO H' rfl rfl
theorem W_spec_LineOk (line:ByteArray) (r':Bool) (h0':spec_LineOk line=some r'):Fn X 145 [.one (.sc (.string line))] [.one (.sc (.bool r'))] []:=by
 have H':=And.intro t3 (And.intro t5 (t9))
 unfold spec_LineOk at h0'
 refine Fn.start (fn:=f145) (N:=17) (res:=[.tmp 2]) rfl rfl rfl rfl rfl (by simp) ?_
 refine zU H' ?_
 refine zB ?_
 refine zA ?_
 refine ops H' ?_
 refine zE ?_
 refine zV (fun e'=>spec_LineOk_j1 line=some r'∧e'=⟨17,1,1,[(0,.pl (.one (.v (.sc (.string line)))))],[]⟩) ?_ ?_
 ·refine zB ?_
  refine zA ?_
  refine ops H' ?_
  refine zE ?_
  obtain ⟨p,hl',h0'⟩:=zbi h0'
  refine zI ?_
  refine zS (fun i e'=>e'=⟨17,1,1,[(0,.pl (.one (.v (.sc (.string line))))),(3,.pl (.one (.v (.sc (.int .i64 i)))))],[]⟩) hl' (shd [0,3] [] 1 rfl) ?_
  rintro i y1' e' h1' rfl
  replace h1':spec_LineOk_l1 line i=some y1':=h1'
  unfold spec_LineOk_l1 at h1'
  refine zB ?_
  refine zB ?_
  refine zA ?_
  refine ops H' ?_
  refine zE ?_
  refine zH (fun hc'=>?_) (fun hc'=>?_)
  ·replace h1':=(ifT hc').symm.trans h1'
   refine zM ?_
   refine zB ?_
   refine zI ?_
   refine zB ?_
   refine zA ?_
   obtain ⟨x12,hv',h1'⟩:=zbi h1'
   have H':=And.intro (sidx_f hv') H'
   refine ops H' ?_
   refine zE ?_
   refine zH (fun hc'=>?_) (fun hc'=>?_)
   ·replace h1':=(ifT hc').symm.trans h1'
    refine zB ?_
    refine zA ?_
    refine ops H' ?_
    refine zE ?_
    refine zN ?_
    obtain rfl:=zso h1'
    refine ⟨_,rfl,fun hr'=>?_⟩
    subst hr'
    obtain rfl:=zso h0'
    exact zO H' rfl rfl
   ·replace h1':=(ifF hc').symm.trans h1'
    refine zM ?_
    refine zA ?_
    refine ops H' ?_
    refine zE ?_
    obtain rfl:=zso h1'
    exact shd [0,3] [] 1 ⟨_,rfl,rfl⟩
  ·replace h1':=(ifF hc').symm.trans h1'
   refine qJ ?_
   obtain rfl:=zso h1'
   refine ⟨_,rfl,fun hr'=>?_⟩
   subst hr'
   exact shd [0] [] 1 ⟨h0',rfl⟩
 ·rintro e' ⟨h0',rfl⟩
  unfold spec_LineOk_j1 at h0'
  refine zB ?_
  refine zA ?_
  refine ops H' ?_
  refine zE ?_
  refine zN ?_
  obtain rfl:=zso h0'
  exact zO H' rfl rfl
theorem W_spec_l06Live (b:T_impl_Body) (in_:List Bool) (r':Bool) (h0':spec_l06Live b in_=some r'):Fn X 147 [.agg [.sc (.string b.Line),.sc (.int .i64 b.Ins),.sc (.int .i64 b.Ord),.list false 1 (List.map (rK .i64) b.Dels)],.one (.list false 1 (List.map rB in_))] [.one (.sc (.bool r'))] []:=by
 have H':=And.intro t3 (And.intro t4 (And.intro t40 (And.intro t73 (And.intro t202 (And.intro R_b (qK))))))
 unfold spec_l06Live at h0'
 refine Fn.start (fn:=f147) (N:=47) (res:=[.tmp 4]) rfl rfl rfl rfl rfl (by simp) ?_
 refine zU H' ?_
 refine zB ?_
 refine zA ?_
 refine ops H' ?_
 refine zE ?_
 refine zB ?_
 refine zB ?_
 refine zA ?_
 refine ops H' ?_
 obtain ⟨x11,hy',h0'⟩:=zbi h0'
 refine zR H' (fun _=>[]) (W_spec_l01In _ _ _ _ hy') ?_
 refine ops H' ?_
 obtain ⟨b_1,gh0',h0'⟩:=zbi h0'
 refine qC 7 (fun e'=>e'=⟨47,5,6,[(1,.pl (.one (.v (.list false 1 (List.map rB in_))))),(2,.pl (.one (.ref 5 []))),(20,.pl (.one (.v (.sc (.bool b_1)))))],[(5,.box true [.sc (.string b.Line),.sc (.int .i64 b.Ins),.sc (.int .i64 b.Ord),.list false 1 (List.map (rK .i64) b.Dels)])]⟩) ?_ ?_
 ·simp only [List.take_succ_cons,List.take_zero]
  refine qE (fun hc'=>?_) (fun hc'=>?_)
  ·replace gh0':=(ifF hc').symm.trans gh0'
   obtain ⟨x,hv',gh0'⟩:=zbi gh0'
   have H':=And.intro (zP hv') H'
   refine ops H' ?_
   obtain rfl:=zso gh0'
   refine zG ?_
   exact ⟨rfl,shd [1,2,20] [(5,5)] 6 rfl⟩
  ·replace gh0':=(ifT hc').symm.trans gh0'
   refine ops H' ?_
   obtain rfl:=zso gh0'
   refine zG ?_
   exact ⟨rfl,shd [1,2,20] [(5,5)] 6 rfl⟩
 ·rintro e' rfl
  simp only [List.drop_succ_cons,List.drop_zero]
  refine zE ?_
  refine zH (fun hc'=>?_) (fun hc'=>?_)
  ·replace h0':=(ifT hc').symm.trans h0'
   refine zB ?_
   refine zA ?_
   refine ops H' ?_
   refine zE ?_
   refine zN ?_
   obtain rfl:=zso h0'
   exact zO H' rfl rfl
  ·replace h0':=(ifF hc').symm.trans h0'
   refine zM ?_
   refine zV (fun e'=>spec_l06Live_j1=some r'∧e'=⟨47,5,5,[],[]⟩) ?_ ?_
   ·refine zB ?_
    refine zA ?_
    refine ops H' ?_
    refine zE ?_
    obtain ⟨p,hl',h0'⟩:=zbi h0'
    refine zI ?_
    refine zS (fun i e'=>e'=⟨47,5,6,[(1,.pl (.one (.v (.list false 1 (List.map rB in_))))),(2,.pl (.one (.ref 5 []))),(5,.pl (.one (.v (.sc (.int .i64 i)))))],[(5,.box true [.sc (.string b.Line),.sc (.int .i64 b.Ins),.sc (.int .i64 b.Ord),.list false 1 (List.map (rK .i64) b.Dels)])]⟩) hl' (shd [1,2,5] [(5,5)] 6 rfl) ?_
    rintro i y1' e' h1' rfl
    replace h1':spec_l06Live_l1 b in_ i=some y1':=h1'
    unfold spec_l06Live_l1 at h1'
    refine zB ?_
    refine zB ?_
    refine zA ?_
    refine ops H' ?_
    refine zE ?_
    refine zH (fun hc'=>?_) (fun hc'=>?_)
    ·replace h1':=(ifT hc').symm.trans h1'
     refine zM ?_
     refine zB ?_
     refine zI ?_
     refine zB ?_
     refine zA ?_
     obtain ⟨x_1,hv',h1'⟩:=zbi h1'
     have H':=And.intro (zP hv') H'
     refine ops H' ?_
     obtain ⟨x36,hy',h1'⟩:=zbi h1'
     refine zR H' (fun _=>[]) (W_spec_l01In _ _ _ _ hy') ?_
     refine ops H' ?_
     obtain ⟨b_2,gh1',h1'⟩:=zbi h1'
     refine qC 9 (fun e'=>e'=⟨47,5,6,[(1,.pl (.one (.v (.list false 1 (List.map rB in_))))),(2,.pl (.one (.ref 5 []))),(5,.pl (.one (.v (.sc (.int .i64 i))))),(46,.pl (.one (.v (.sc (.bool b_2)))))],[(5,.box true [.sc (.string b.Line),.sc (.int .i64 b.Ins),.sc (.int .i64 b.Ord),.list false 1 (List.map (rK .i64) b.Dels)])]⟩) ?_ ?_
     ·simp only [List.take_succ_cons,List.take_zero]
      refine qE (fun hc'=>?_) (fun hc'=>?_)
      ·replace gh1':=(ifT hc').symm.trans gh1'
       obtain ⟨x_2,hv',gh1'⟩:=zbi gh1'
       have H':=And.intro (zP hv') H'
       refine ops H' ?_
       obtain rfl:=zso gh1'
       refine zG ?_
       exact ⟨rfl,shd [1,2,5,46] [(5,5)] 6 rfl⟩
      ·replace gh1':=(ifF hc').symm.trans gh1'
       refine ops H' ?_
       obtain rfl:=zso gh1'
       refine zG ?_
       exact ⟨rfl,shd [1,2,5,46] [(5,5)] 6 rfl⟩
     ·rintro e' rfl
      simp only [List.drop_succ_cons,List.drop_zero]
      refine zE ?_
      refine zH (fun hc'=>?_) (fun hc'=>?_)
      ·replace h1':=(ifT hc').symm.trans h1'
       refine zB ?_
       refine zA ?_
       refine ops H' ?_
       refine zE ?_
       refine zN ?_
       obtain rfl:=zso h1'
       refine ⟨_,rfl,fun hr'=>?_⟩
       subst hr'
       obtain rfl:=zso h0'
       exact zO H' rfl rfl
      ·replace h1':=(ifF hc').symm.trans h1'
       refine zM ?_
       refine zA ?_
       refine ops H' ?_
       refine zE ?_
       obtain rfl:=zso h1'
       exact shd [1,2,5] [(5,5)] 6 ⟨_,rfl,rfl⟩
    ·replace h1':=(ifF hc').symm.trans h1'
     refine qJ ?_
     obtain rfl:=zso h1'
     refine ⟨_,rfl,fun hr'=>?_⟩
     subst hr'
     exact shd [] [] 5 ⟨h0',rfl⟩
   ·rintro e' ⟨h0',rfl⟩
    unfold spec_l06Live_j1 at h0'
    refine zB ?_
    refine zA ?_
    refine ops H' ?_
    refine zE ?_
    refine zN ?_
    obtain rfl:=zso h0'
    exact zO H' rfl rfl
theorem W_spec_l06Closure (w:T_impl_Weave) (v:Int) (r':(List Bool)) (h0':spec_l06Closure w v=some r'):Fn X 149 [.agg [.list false 1 (List.map (rL false 1 (rK .i64)) w.Parents),.list false 4 (List.map (zF false) w.Bodies)],.one (.sc (.int .i64 v))] [.one (.list true 1 (List.map rB r'))] []:=by
 have H':=And.intro t3 (And.intro t33 (And.intro t36 (And.intro t40 (And.intro qT (And.intro qL (And.intro R_b (qK)))))))
 unfold spec_l06Closure at h0'
 refine Fn.start (fn:=f149) (N:=10) (res:=[.tmp 4]) rfl rfl rfl rfl rfl (by simp) ?_
 refine zU H' ?_
 refine zB ?_
 refine zA ?_
 refine ops H' ?_
 refine zE ?_
 refine zB ?_
 refine zA ?_
 refine ops H' ?_
 obtain ⟨x9,hy',h0'⟩:=zbi h0'
 refine zR H' (fun _=>[]) (W_spec_l05Set _ _ _ hy') ?_
 refine ops H' ?_
 refine zE ?_
 refine zN ?_
 obtain rfl:=zso h0'
 exact zO H' rfl rfl
end Go.TV.KFnExactFileLog
