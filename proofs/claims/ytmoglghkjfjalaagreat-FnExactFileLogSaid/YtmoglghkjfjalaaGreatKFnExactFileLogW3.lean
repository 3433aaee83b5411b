/- Walks. -/
import Derived.Test.YtmoglghkjfjalaaGreatKFnExactFileLogE
import Derived.Test.YtmoglghkjfjalaaGreatKFnExactFileLogW1
import Derived.Test.YtmoglghkjfjalaaGreatKFnExactFileLogW2
set_option linter.unusedVariables false
set_option linter.unusedSimpArgs false
set_option maxHeartbeats 8000000
set_option maxRecDepth 100000
namespace Go.TV.KFnExactFileLog
attribute [local irreducible] anyV wpV opsV Does thenV blockV RetL quV seqV
open Go.Proofs.Tryz Go.TV.F
theorem W_spec_l14Touched (list_:List T_impl_Commit) (c:Int) (r':(List Int)) (h0':spec_l14Touched list_ c=some r'):Fn X 68 [.one (.list false 3 (List.map (zC false) list_)),.one (.sc (.int .i64 c))] [.one (.list true 1 (List.map (rK .i64) r'))] []:=by
 have H':=And.intro t3 (And.intro t24 (And.intro t40 (And.intro t41 (And.intro t43 (And.intro qI (And.intro zZ (qK)))))))
 unfold spec_l14Touched at h0'
 refine Fn.start (fn:=f68) (N:=69) (res:=[.tmp 4]) rfl rfl rfl rfl rfl (by simp) ?_
 refine zU H' ?_
 refine zB ?_
 refine zA ?_
 refine ops H' ?_
 refine zE ?_
 refine zB ?_
 refine zA ?_
 refine ops H' ?_
 refine zE ?_
 refine zV (fun e'=>∃ out_,spec_l14Touched_j1 out_=some r'∧e'=⟨69,2,3,[(5,.pl (.one (.ref 2 [])))],[(2,.list true 1 (List.map (rK .i64) out_))]⟩) ?_ ?_
 ·refine zB ?_
  refine zA ?_
  refine ops H' ?_
  refine zE ?_
  obtain ⟨p,hl',h0'⟩:=zbi h0'
  refine zI ?_
  refine zS (fun s' e'=>∃ id out__1,s'=(id,out__1)∧e'=⟨69,2,3,[(0,.pl (.one (.v (.list false 3 (List.map (zC false) list_))))),(1,.pl (.one (.v (.sc (.int .i64 c))))),(5,.pl (.one (.ref 2 []))),(6,.pl (.one (.v (.sc (.int .i64 id)))))],[(2,.list true 1 (List.map (rK .i64) out__1))]⟩) hl' (shd [0,1,5,6] [(3,2)] 3 ⟨_,_,rfl,rfl⟩) ?_
  rintro s' y1' e' h1' ⟨id,out__1,rfl,rfl⟩
  replace h1':spec_l14Touched_l1 list_ c id out__1=some y1':=h1'
  unfold spec_l14Touched_l1 at h1'
  refine zB ?_
  refine zB ?_
  refine zA ?_
  refine ops H' ?_
  refine zE ?_
  refine zH (fun hc'=>?_) (fun hc'=>?_)
  ·replace h1':=(ifT hc').symm.trans h1'
   refine zM ?_
   refine zV (fun e'=>∃ out__2,spec_l14Touched_j2 id out__2=some y1'∧e'=⟨69,2,3,[(0,.pl (.one (.v (.list false 3 (List.map (zC false) list_))))),(1,.pl (.one (.v (.sc (.int .i64 c))))),(5,.pl (.one (.ref 2 []))),(6,.pl (.one (.v (.sc (.int .i64 id)))))],[(2,.list true 1 (List.map (rK .i64) out__2))]⟩) ?_ ?_
   ·refine zI ?_
    refine zB ?_
    refine zA ?_
    obtain ⟨x,hv',h1'⟩:=zbi h1'
    have H':=And.intro (zP hv') H'
    refine ops H' ?_
    obtain ⟨b,gh1',h1'⟩:=zbi h1'
    refine qC 9 (fun e'=>e'=⟨69,2,3,[(0,.pl (.one (.v (.list false 3 (List.map (zC false) list_))))),(1,.pl (.one (.v (.sc (.int .i64 c))))),(5,.pl (.one (.ref 2 []))),(6,.pl (.one (.v (.sc (.int .i64 id))))),(30,.pl (.one (.v (.sc (.bool b)))))],[(2,.list true 1 (List.map (rK .i64) out__1))]⟩) ?_ ?_
    ·simp only [List.take_succ_cons,List.take_zero]
     refine qE (fun hc'=>?_) (fun hc'=>?_)
     ·replace gh1':=(ifT hc').symm.trans gh1'
      refine ops H' ?_
      obtain ⟨x28,hy',gh1'⟩:=zbi gh1'
      refine zR H' (fun _=>[]) (W_spec_l13Id _ _ _ hy') ?_
      refine ops H' ?_
      obtain rfl:=zso gh1'
      refine zG ?_
      exact ⟨rfl,shd [0,1,5,6,30] [(2,2)] 3 rfl⟩
     ·replace gh1':=(ifF hc').symm.trans gh1'
      refine ops H' ?_
      obtain rfl:=zso gh1'
      refine zG ?_
      exact ⟨rfl,shd [0,1,5,6,30] [(2,2)] 3 rfl⟩
    ·rintro e' rfl
     simp only [List.drop_succ_cons,List.drop_zero]
     refine ops H' ?_
     refine zE ?_
     refine zV (fun e'=>∃ hit,spec_l14Touched_j3 id out__1 hit=some y1'∧e'=⟨69,2,3,[(0,.pl (.one (.v (.list false 3 (List.map (zC false) list_))))),(1,.pl (.one (.v (.sc (.int .i64 c))))),(5,.pl (.one (.ref 2 []))),(6,.pl (.one (.v (.sc (.int .i64 id))))),(7,.pl (.one (.v (.sc (.bool hit)))))],[(2,.list true 1 (List.map (rK .i64) out__1))]⟩) ?_ ?_
     ·refine zB ?_
      refine zA ?_
      refine ops H' ?_
      refine zE ?_
      obtain ⟨p_1,hl',h1'⟩:=zbi h1'
      refine zI ?_
      refine zS (fun s' e'=>∃ hit_1 k,s'=(hit_1,k)∧e'=⟨69,2,3,[(0,.pl (.one (.v (.list false 3 (List.map (zC false) list_))))),(1,.pl (.one (.v (.sc (.int .i64 c))))),(5,.pl (.one (.ref 2 []))),(6,.pl (.one (.v (.sc (.int .i64 id))))),(7,.pl (.one (.v (.sc (.bool hit_1))))),(8,.pl (.one (.v (.sc (.int .i64 k)))))],[(2,.list true 1 (List.map (rK .i64) out__1))]⟩) hl' (shd [0,1,5,6,7,8] [(2,2)] 3 ⟨_,_,rfl,rfl⟩) ?_
      rintro s' y2' e' h2' ⟨hit_1,k,rfl,rfl⟩
      replace h2':spec_l14Touched_l2 list_ c id hit_1 k=some y2':=h2'
      unfold spec_l14Touched_l2 at h2'
      refine zB ?_
      refine zB ?_
      refine zA ?_
      obtain ⟨x_1,hv',h2'⟩:=zbi h2'
      have H':=And.intro (zP hv') H'
      refine ops H' ?_
      refine zE ?_
      refine zH (fun hc'=>?_) (fun hc'=>?_)
      ·replace h2':=(ifT hc').symm.trans h2'
       refine zM ?_
       refine zB ?_
       refine zI ?_
       refine regQ ?_
       refine ops H' ?_
       obtain ⟨b_1,gh2',h2'⟩:=zbi h2'
       refine quV_cut 20 (fun e'=>e'=⟨69,2,3,[(0,.pl (.one (.v (.list false 3 (List.map (zC false) list_))))),(1,.pl (.one (.v (.sc (.int .i64 c))))),(5,.pl (.one (.ref 2 []))),(6,.pl (.one (.v (.sc (.int .i64 id))))),(8,.pl (.one (.v (.sc (.int .i64 k))))),(62,.pl (.one (.v (.sc (.bool b_1)))))],[(2,.list true 1 (List.map (rK .i64) out__1))]⟩) ?_ ?_
       ·simp only [List.take_succ_cons,List.take_zero]
        refine quV_sp (fun hc'=>?_) (fun hc'=>?_)
        ·replace gh2':=(ifF hc').symm.trans gh2'
         obtain ⟨x_2,hv',gh2'⟩:=zbi gh2'
         have H':=And.intro (zP hv') H'
         obtain ⟨x_3,hv',gh2'⟩:=zbi gh2'
         have H':=And.intro (zP hv') H'
         refine ops H' ?_
         obtain ⟨x61,hy',gh2'⟩:=zbi gh2'
         refine callGQ H' (W_spec_l14Differs _ _ _ _ hy') ?_
         refine ops H' ?_
         obtain rfl:=zso gh2'
         refine qU ?_
         exact ⟨rfl,shd [0,1,5,6,8,62] [(2,2)] 3 rfl⟩
        ·replace gh2':=(ifT hc').symm.trans gh2'
         refine ops H' ?_
         obtain rfl:=zso gh2'
         refine qU ?_
         exact ⟨rfl,shd [0,1,5,6,8,62] [(2,2)] 3 rfl⟩
       ·rintro e' rfl
        simp only [List.drop_succ_cons,List.drop_zero]
        refine ops H' ?_
        refine quN ?_
        refine zA ?_
        refine ops H' ?_
        refine zE ?_
        obtain rfl:=zso h2'
        exact shd [0,1,5,6,7,8] [(2,2)] 3 ⟨_,rfl,_,_,rfl,rfl⟩
      ·replace h2':=(ifF hc').symm.trans h2'
       refine qJ ?_
       obtain rfl:=zso h2'
       refine ⟨_,rfl,fun hr'=>?_⟩
       subst hr'
       exact shd [0,1,5,6,7] [(2,2)] 3 ⟨_,h1',rfl⟩
     ·rintro e' ⟨hit,h1',rfl⟩
      unfold spec_l14Touched_j3 at h1'
      refine zB ?_
      refine zA ?_
      refine ops H' ?_
      refine zE ?_
      refine zH (fun hc'=>?_) (fun hc'=>?_)
      ·replace h1':=(ifT hc').symm.trans h1'
       refine zA ?_
       obtain ⟨l,hv',h1'⟩:=zbi h1'
       have H':=And.intro (app1_f hv') H'
       refine ops H' ?_
       refine zE ?_
       exact shd [0,1,5,6] [(2,2)] 3 ⟨_,h1',rfl⟩
      ·replace h1':=(ifF hc').symm.trans h1'
       refine zM ?_
       exact shd [0,1,5,6] [(2,2)] 3 ⟨_,h1',rfl⟩
   ·rintro e' ⟨out__2,h1',rfl⟩
    unfold spec_l14Touched_j2 at h1'
    refine zA ?_
    refine ops H' ?_
    refine zE ?_
    obtain rfl:=zso h1'
    exact shd [0,1,5,6] [(2,2)] 3 ⟨_,rfl,_,_,rfl,rfl⟩
  ·replace h1':=(ifF hc').symm.trans h1'
   refine qJ ?_
   obtain rfl:=zso h1'
   refine ⟨_,rfl,fun hr'=>?_⟩
   subst hr'
   exact shd [5] [(2,2)] 3 ⟨_,h0',rfl⟩
 ·rintro e' ⟨out_,h0',rfl⟩
  unfold spec_l14Touched_j1 at h0'
  refine zB ?_
  refine zA ?_
  refine ops H' ?_
  refine zE ?_
  refine zN ?_
  obtain rfl:=zso h0'
  exact zO H' rfl rfl
theorem W_spec_l07In (list_:List Int) (x:Int) (r':Bool) (h0':spec_l07In list_ x=some r'):Fn X 67 [.one (.list false 1 (List.map (rK .i64) list_)),.one (.sc (.int .i64 x))] [.one (.sc (.bool r'))] []:=by
 have H':=And.intro t3 (And.intro t40 (qK))
 unfold spec_l07In at h0'
 refine Fn.start (fn:=f67) (N:=18) (res:=[.tmp 4]) rfl rfl rfl rfl rfl (by simp) ?_
 refine zU H' ?_
 refine zB ?_
 refine zA ?_
 refine ops H' ?_
 refine zE ?_
 refine zV (fun e'=>spec_l07In_j1=some r'∧e'=⟨18,2,2,[],[]⟩) ?_ ?_
 ·refine zB ?_
  refine zA ?_
  refine ops H' ?_
  refine zE ?_
  obtain ⟨p,hl',h0'⟩:=zbi h0'
  refine zI ?_
  refine zS (fun i e'=>e'=⟨18,2,2,[(0,.pl (.one (.v (.list false 1 (List.map (rK .i64) list_))))),(1,.pl (.one (.v (.sc (.int .i64 x))))),(5,.pl (.one (.v (.sc (.int .i64 i)))))],[]⟩) hl' (shd [0,1,5] [] 2 rfl) ?_
  rintro i y1' e' h1' rfl
  replace h1':spec_l07In_l1 list_ x i=some y1':=h1'
  unfold spec_l07In_l1 at h1'
  refine zB ?_
  refine zB ?_
  refine zA ?_
  refine ops H' ?_
  refine zE ?_
  refine zH (fun hc'=>?_) (fun hc'=>?_)
  ·replace h1':=(ifT hc').symm.trans h1'
   refine zM ?_
   refine zB ?_
   refine zI ?_
   refine zB ?_
   refine zA ?_
   obtain ⟨x_1,hv',h1'⟩:=zbi h1'
   have H':=And.intro (zP hv') H'
   refine ops H' ?_
   refine zE ?_
   refine zH (fun hc'=>?_) (fun hc'=>?_)
   ·replace h1':=(ifT hc').symm.trans h1'
    refine zB ?_
    refine zA ?_
    refine ops H' ?_
    refine zE ?_
    refine zN ?_
    obtain rfl:=zso h1'
    refine ⟨_,rfl,fun hr'=>?_⟩
    subst hr'
    obtain rfl:=zso h0'
    exact zO H' rfl rfl
   ·replace h1':=(ifF hc').symm.trans h1'
    refine zM ?_
    refine zA ?_
    refine ops H' ?_
    refine zE ?_
    obtain rfl:=zso h1'
    exact shd [0,1,5] [] 2 ⟨_,rfl,rfl⟩
  ·replace h1':=(ifF hc').symm.trans h1'
   refine qJ ?_
   obtain rfl:=zso h1'
   refine ⟨_,rfl,fun hr'=>?_⟩
   subst hr'
   exact shd [] [] 2 ⟨h0',rfl⟩
 ·rintro e' ⟨h0',rfl⟩
  unfold spec_l07In_j1 at h0'
  refine zB ?_
  refine zA ?_
  refine ops H' ?_
  refine zE ?_
  refine zN ?_
  obtain rfl:=zso h0'
  exact zO H' rfl rfl
theorem W_spec_FileLog (s:T_impl_Store) (path:ByteArray) (c:Int) (r':(List Int)×Int) (h0':spec_FileLog s path c=some r'):Fn X 15 [.agg [.list false 3 (List.map (zC false) s.Commits),.list false 2 (List.map (zD false) s.Files)],.one (.sc (.string path)),.one (.sc (.int .i64 c))] [.one (.list true 1 (List.map (rK .i64) r'.1)),.one (.sc (.int .i64 r'.2))] []:=by
 have H':=And.intro t3 (And.intro t24 (And.intro t27 (And.intro t40 (And.intro t45 (And.intro qT (And.intro qL (And.intro qI (And.intro zZ (And.intro qV (qK))))))))))
 unfold spec_FileLog at h0'
 refine Fn.start (fn:=f15) (N:=55) (res:=[.tmp 6,.tmp 7]) rfl rfl rfl rfl rfl (by simp) ?_
 refine zU H' ?_
 refine zB ?_
 refine zA ?_
 refine ops H' ?_
 refine zE ?_
 refine zB ?_
 refine zA ?_
 refine ops H' ?_
 refine zE ?_
 refine zB ?_
 refine zA ?_
 refine ops H' ?_
 obtain ⟨x18,hy',h0'⟩:=zbi h0'
 refine zR H' (fun _=>[]) (W_spec_l15Find _ _ _ _ hy') ?_
 refine ops H' ?_
 refine zE ?_
 refine zB ?_
 refine zB ?_
 refine zA ?_
 refine ops H' ?_
 refine zE ?_
 refine zH (fun hc'=>?_) (fun hc'=>?_)
 ·replace h0':=(ifT hc').symm.trans h0'
  refine zB ?_
  refine zA ?_
  refine ops H' ?_
  refine zE ?_
  refine zN ?_
  obtain rfl:=zso h0'
  exact zO H' rfl rfl
 ·replace h0':=(ifF hc').symm.trans h0'
  refine zM ?_
  refine zB ?_
  obtain ⟨x28,hy_x28,h0'⟩:=zbi h0'
  obtain ⟨x30,hy_x30,h0'⟩:=zbi h0'
  refine wpV_J (fun e'=>e'=⟨55,4,8,[(3,.pl (.one (.ref 4 []))),(8,.pl (.one (.ref 5 []))),(9,.pl (.one (.ref 6 []))),(11,.pl (.one (.ref 7 [])))],[(4,.box true [.list false 3 (List.map (zC false) s.Commits),.list false 2 (List.map (zD false) s.Files)]),(5,.list true 1 (List.map (rK .i64) [])),(6,.box true [.sc (.string x18.1.Path),.sc (.int .i64 x18.1.Id),.sc (.int .i64 x18.1.Version)]),(7,.list true 1 (List.map (rK .i64) x30))]⟩) ?_ ?_
  ·refine regAnyF [(1,26,.pl (.one (.v (.list false 3 (List.map (zC false) s.Commits))))),(2,27,.pl (.agg [.v (.list false 3 (List.map (zC false) s.Commits)),.v (.list false 2 (List.map (zD false) s.Files))]))] ?_
   refine (?_:anyF X ?o0 _ _ ?P0 _)
   have d0':anyF X ?o0 [0,1,2,3,4,5,6] [] ?P0 ⟨55,4,8,[(3,.pl (.one (.ref 4 []))),(8,.pl (.one (.ref 5 []))),(9,.pl (.one (.ref 6 []))),(11,.pl (.one (.ref 7 [])))],[(4,.box true [.list false 3 (List.map (zC false) s.Commits),.list false 2 (List.map (zD false) s.Files)]),(5,.list true 1 (List.map (rK .i64) [])),(6,.box true [.sc (.string x18.1.Path),.sc (.int .i64 x18.1.Id),.sc (.int .i64 x18.1.Version)]),(7,.list true 1 (List.map (rK .i64) x30))]⟩:=by
    refine fend (e2:=⟨55,4,8,[(3,.pl (.one (.ref 4 []))),(8,.pl (.one (.ref 5 []))),(9,.pl (.one (.ref 6 []))),(11,.pl (.one (.ref 7 [])))],[(4,.box true [.list false 3 (List.map (zC false) s.Commits),.list false 2 (List.map (zD false) s.Files)]),(5,.list true 1 (List.map (rK .i64) [])),(6,.box true [.sc (.string x18.1.Path),.sc (.int .i64 x18.1.Id),.sc (.int .i64 x18.1.Version)]),(7,.list true 1 (List.map (rK .i64) x30))]⟩) [] [] [] [] trivial ⟨rfl,shd [3,8,9,11] [(4,4),(5,5),(6,6),(7,7)] 8 rfl⟩
   have d1':anyF X ?o0 [0,1,2,3,4,5] [] ?P0 ⟨55,4,8,[(3,.pl (.one (.ref 4 []))),(8,.pl (.one (.ref 5 []))),(9,.pl (.one (.ref 6 []))),(30,.pl (.one (.ref 7 [])))],[(4,.box true [.list false 3 (List.map (zC false) s.Commits),.list false 2 (List.map (zD false) s.Files)]),(5,.list true 1 (List.map (rK .i64) [])),(6,.box true [.sc (.string x18.1.Path),.sc (.int .i64 x18.1.Id),.sc (.int .i64 x18.1.Version)]),(7,.list true 1 (List.map (rK .i64) x30))]⟩:=by
    refine fnode [] [.m 6 [] [0,1,2,3,4,5,6] []] [] [(6,false,[],[0,1,2,3,4,5,6])] ⟨?_,trivial⟩
    ·refine obMx ⟨55,4,8,[(3,.pl (.one (.ref 4 []))),(8,.pl (.one (.ref 5 []))),(9,.pl (.one (.ref 6 []))),(30,.pl (.one (.ref 7 [])))],[(4,.box true [.list false 3 (List.map (zC false) s.Commits),.list false 2 (List.map (zD false) s.Files)]),(5,.list true 1 (List.map (rK .i64) [])),(6,.box true [.sc (.string x18.1.Path),.sc (.int .i64 x18.1.Id),.sc (.int .i64 x18.1.Version)]),(7,.list true 1 (List.map (rK .i64) x30))]⟩ ?_
     refine ops H' ?_
     refine zG ⟨rfl,.inl ⟨rfl,?_⟩⟩
     exact qN [3,8,9,11] [(4,4),(5,5),(6,6),(7,7)] 8 d0'
   have d2':anyF X ?o0 [0,2,3,4] [(1,26,.pl (.one (.v (.list false 3 (List.map (zC false) s.Commits)))))] ?P0 ⟨55,4,8,[(3,.pl (.one (.ref 4 []))),(8,.pl (.one (.ref 5 []))),(9,.pl (.one (.ref 6 []))),(25,.pl (.one (.addr 4 [] 0 0 0))),(28,.pl (.one (.ref 7 []))),(29,.pl (.one (.v (.sc (.int .i64 c)))))],[(4,.box true [.list false 3 (List.map (zC false) s.Commits),.list false 2 (List.map (zD false) s.Files)]),(5,.list true 1 (List.map (rK .i64) [])),(6,.box true [.sc (.string x18.1.Path),.sc (.int .i64 x18.1.Id),.sc (.int .i64 x18.1.Version)]),(7,.list true 1 (List.map (rK .i64) x28))]⟩:=by
    refine fnode [1] [.q 1 26 (.pl (.one (.v (.list false 3 (List.map (zC false) s.Commits))))) [],.m 5 [1] [0,1,2,3,4,5] []] [(1,26)] [(1,true,[],[]),(5,false,[1],[0,1,2,3,4,5])] ⟨?_,?_,trivial⟩
    ·refine qB 0 ⟨55,4,8,[(3,.pl (.one (.ref 4 []))),(8,.pl (.one (.ref 5 []))),(9,.pl (.one (.ref 6 []))),(25,.pl (.one (.addr 4 [] 0 0 0))),(28,.pl (.one (.ref 7 []))),(29,.pl (.one (.v (.sc (.int .i64 c)))))],[(4,.box true [.list false 3 (List.map (zC false) s.Commits),.list false 2 (List.map (zD false) s.Files)]),(5,.list true 1 (List.map (rK .i64) [])),(6,.box true [.sc (.string x18.1.Path),.sc (.int .i64 x18.1.Id),.sc (.int .i64 x18.1.Version)]),(7,.list true 1 (List.map (rK .i64) x28))]⟩ ?_
     refine ops H' ?_
     refine zG ⟨rfl,shd [26,3,8,9,25,28,29] [(4,4),(5,5),(6,6),(7,7)] 8 rfl⟩
    ·refine obMx ⟨55,4,8,[(26,.pl (.one (.v (.list false 3 (List.map (zC false) s.Commits))))),(3,.pl (.one (.ref 4 []))),(8,.pl (.one (.ref 5 []))),(9,.pl (.one (.ref 6 []))),(25,.pl (.one (.addr 4 [] 0 0 0))),(28,.pl (.one (.ref 7 []))),(29,.pl (.one (.v (.sc (.int .i64 c)))))],[(4,.box true [.list false 3 (List.map (zC false) s.Commits),.list false 2 (List.map (zD false) s.Files)]),(5,.list true 1 (List.map (rK .i64) [])),(6,.box true [.sc (.string x18.1.Path),.sc (.int .i64 x18.1.Id),.sc (.int .i64 x18.1.Version)]),(7,.list true 1 (List.map (rK .i64) x28))]⟩ ?_
     refine zR H' (fun _=>[]) (W_spec_LogOf _ _ _ _ hy_x30) ?_
     refine zG ⟨rfl,.inl ⟨rfl,?_⟩⟩
     exact qN [3,8,9,30] [(4,4),(5,5),(6,6),(8,7)] 8 d1'
   have d3':anyF X ?o0 [0,4] [(1,26,.pl (.one (.v (.list false 3 (List.map (zC false) s.Commits))))),(2,27,.pl (.agg [.v (.list false 3 (List.map (zC false) s.Commits)),.v (.list false 2 (List.map (zD false) s.Files))]))] ?P0 ⟨55,4,7,[(3,.pl (.one (.ref 4 []))),(8,.pl (.one (.ref 5 []))),(9,.pl (.one (.ref 6 []))),(25,.pl (.one (.addr 4 [] 0 0 0))),(29,.pl (.one (.v (.sc (.int .i64 c)))))],[(4,.box true [.list false 3 (List.map (zC false) s.Commits),.list false 2 (List.map (zD false) s.Files)]),(5,.list true 1 (List.map (rK .i64) [])),(6,.box true [.sc (.string x18.1.Path),.sc (.int .i64 x18.1.Id),.sc (.int .i64 x18.1.Version)])]⟩:=by
    refine fnode [1,2] [.q 1 26 (.pl (.one (.v (.list false 3 (List.map (zC false) s.Commits))))) [],.q 2 27 (.pl (.agg [.v (.list false 3 (List.map (zC false) s.Commits)),.v (.list false 2 (List.map (zD false) s.Files))])) [],.m 3 [2] [0,2,3,4] [(1,26,.pl (.one (.v (.list false 3 (List.map (zC false) s.Commits)))))]] [(1,26),(2,27)] [(1,true,[],[]),(2,true,[],[]),(3,false,[2],[0,2,3,4])] ⟨?_,?_,?_,trivial⟩
    ·refine qB 0 ⟨55,4,7,[(3,.pl (.one (.ref 4 []))),(8,.pl (.one (.ref 5 []))),(9,.pl (.one (.ref 6 []))),(25,.pl (.one (.addr 4 [] 0 0 0))),(29,.pl (.one (.v (.sc (.int .i64 c)))))],[(4,.box true [.list false 3 (List.map (zC false) s.Commits),.list false 2 (List.map (zD false) s.Files)]),(5,.list true 1 (List.map (rK .i64) [])),(6,.box true [.sc (.string x18.1.Path),.sc (.int .i64 x18.1.Id),.sc (.int .i64 x18.1.Version)])]⟩ ?_
     refine ops H' ?_
     refine zG ⟨rfl,shd [26,3,8,9,25,29] [(4,4),(5,5),(6,6)] 7 rfl⟩
    ·refine qB 1 ⟨55,4,7,[(3,.pl (.one (.ref 4 []))),(8,.pl (.one (.ref 5 []))),(9,.pl (.one (.ref 6 []))),(25,.pl (.one (.addr 4 [] 0 0 0))),(29,.pl (.one (.v (.sc (.int .i64 c)))))],[(4,.box true [.list false 3 (List.map (zC false) s.Commits),.list false 2 (List.map (zD false) s.Files)]),(5,.list true 1 (List.map (rK .i64) [])),(6,.box true [.sc (.string x18.1.Path),.sc (.int .i64 x18.1.Id),.sc (.int .i64 x18.1.Version)])]⟩ ?_
     refine ops H' ?_
     refine zG ⟨rfl,shd [27,3,8,9,25,29] [(4,4),(5,5),(6,6)] 7 rfl⟩
    ·refine obMx ⟨55,4,7,[(27,.pl (.agg [.v (.list false 3 (List.map (zC false) s.Commits)),.v (.list false 2 (List.map (zD false) s.Files))])),(3,.pl (.one (.ref 4 []))),(8,.pl (.one (.ref 5 []))),(9,.pl (.one (.ref 6 []))),(25,.pl (.one (.addr 4 [] 0 0 0))),(29,.pl (.one (.v (.sc (.int .i64 c)))))],[(4,.box true [.list false 3 (List.map (zC false) s.Commits),.list false 2 (List.map (zD false) s.Files)]),(5,.list true 1 (List.map (rK .i64) [])),(6,.box true [.sc (.string x18.1.Path),.sc (.int .i64 x18.1.Id),.sc (.int .i64 x18.1.Version)])]⟩ ?_
     refine zR H' (fun _=>[]) (W_spec_l15Versions _ _ hy_x28) ?_
     refine zG ⟨rfl,.inl ⟨rfl,?_⟩⟩
     exact qN [3,8,9,25,28,29] [(4,4),(5,5),(6,6),(7,7)] 8 d2'
   refine fpure H' 0 [0] [(1,26),(2,27)] ?_
   refine fpure H' 4 [0,4] [(1,26),(2,27)] ?_
   exact qN [3,8,9,25,29] [(4,4),(6,5),(11,6)] 7 d3'
  ·rintro e' rfl
   refine contN ?_
   refine zV (fun e'=>∃ out_,spec_FileLog_j1 out_=some r'∧e'=⟨55,4,5,[(8,.pl (.one (.ref 4 [])))],[(4,.list true 1 (List.map (rK .i64) out_))]⟩) ?_ ?_
   ·refine zB ?_
    refine zA ?_
    refine ops H' ?_
    refine zE ?_
    obtain ⟨p,hl',h0'⟩:=zbi h0'
    refine zI ?_
    refine zS (fun s' e'=>∃ i out__1,s'=(i,out__1)∧e'=⟨55,4,8,[(3,.pl (.one (.ref 4 []))),(8,.pl (.one (.ref 5 []))),(9,.pl (.one (.ref 6 []))),(11,.pl (.one (.ref 7 []))),(12,.pl (.one (.v (.sc (.int .i64 i)))))],[(4,.box true [.list false 3 (List.map (zC false) s.Commits),.list false 2 (List.map (zD false) s.Files)]),(5,.list true 1 (List.map (rK .i64) out__1)),(6,.box true [.sc (.string x18.1.Path),.sc (.int .i64 x18.1.Id),.sc (.int .i64 x18.1.Version)]),(7,.list true 1 (List.map (rK .i64) x30))]⟩) hl' (shd [3,8,9,11,12] [(4,4),(5,5),(6,6),(7,7)] 8 ⟨_,_,rfl,rfl⟩) ?_
    rintro s' y1' e' h1' ⟨i,out__1,rfl,rfl⟩
    replace h1':spec_FileLog_l1 s x18 x30 i out__1=some y1':=h1'
    unfold spec_FileLog_l1 at h1'
    refine zB ?_
    refine zB ?_
    refine zA ?_
    refine ops H' ?_
    refine zE ?_
    refine zH (fun hc'=>?_) (fun hc'=>?_)
    ·replace h1':=(ifT hc').symm.trans h1'
     refine zM ?_
     refine zB ?_
     refine zI ?_
     refine zB ?_
     obtain ⟨x,hv',h1'⟩:=zbi h1'
     have H':=And.intro (zP hv') H'
     obtain ⟨x43,hy_x43,h1'⟩:=zbi h1'
     obtain ⟨x46,hy_x46,h1'⟩:=zbi h1'
     refine wpV_J (fun e'=>e'=⟨55,4,8,[(3,.pl (.one (.ref 4 []))),(8,.pl (.one (.ref 5 []))),(9,.pl (.one (.ref 6 []))),(11,.pl (.one (.ref 7 []))),(12,.pl (.one (.v (.sc (.int .i64 i))))),(46,.pl (.one (.v (.sc (.bool x46)))))],[(4,.box true [.list false 3 (List.map (zC false) s.Commits),.list false 2 (List.map (zD false) s.Files)]),(5,.list true 1 (List.map (rK .i64) out__1)),(6,.box true [.sc (.string x18.1.Path),.sc (.int .i64 x18.1.Id),.sc (.int .i64 x18.1.Version)]),(7,.list true 1 (List.map (rK .i64) x30))]⟩) ?_ ?_
     ·refine regAnyF [(1,38,.pl (.one (.v (.list false 3 (List.map (zC false) s.Commits))))),(5,42,.pl (.one (.v (.sc (.int .i64 x))))),(8,45,.pl (.one (.v (.sc (.int .i64 x18.1.Id))))),(9,46,.pl (.one (.v (.sc (.bool x46)))))] ?_
      refine (?_:anyF X ?o1 _ _ ?P1 _)
      have d4':anyF X ?o1 [0,1,2,3,4,5,6,7] [(8,45,.pl (.one (.v (.sc (.int .i64 x18.1.Id))))),(9,46,.pl (.one (.v (.sc (.bool x46)))))] ?P1 ⟨55,4,9,[(3,.pl (.one (.ref 4 []))),(8,.pl (.one (.ref 5 []))),(9,.pl (.one (.ref 6 []))),(11,.pl (.one (.ref 7 []))),(12,.pl (.one (.v (.sc (.int .i64 i))))),(43,.pl (.one (.ref 8 []))),(44,.pl (.one (.addr 6 [] 0 0 1)))],[(4,.box true [.list false 3 (List.map (zC false) s.Commits),.list false 2 (List.map (zD false) s.Files)]),(5,.list true 1 (List.map (rK .i64) out__1)),(6,.box true [.sc (.string x18.1.Path),.sc (.int .i64 x18.1.Id),.sc (.int .i64 x18.1.Version)]),(7,.list true 1 (List.map (rK .i64) x30)),(8,.list true 1 (List.map (rK .i64) x43))]⟩:=by
       refine fend (e2:=⟨55,4,9,[(45,.pl (.one (.v (.sc (.int .i64 x18.1.Id))))),(46,.pl (.one (.v (.sc (.bool x46))))),(3,.pl (.one (.ref 4 []))),(8,.pl (.one (.ref 5 []))),(9,.pl (.one (.ref 6 []))),(11,.pl (.one (.ref 7 []))),(12,.pl (.one (.v (.sc (.int .i64 i))))),(43,.pl (.one (.ref 8 []))),(44,.pl (.one (.addr 6 [] 0 0 1)))],[(4,.box true [.list false 3 (List.map (zC false) s.Commits),.list false 2 (List.map (zD false) s.Files)]),(5,.list true 1 (List.map (rK .i64) out__1)),(6,.box true [.sc (.string x18.1.Path),.sc (.int .i64 x18.1.Id),.sc (.int .i64 x18.1.Version)]),(7,.list true 1 (List.map (rK .i64) x30)),(8,.list true 1 (List.map (rK .i64) x43))]⟩) [8,9] [.q 8 45 (.pl (.one (.v (.sc (.int .i64 x18.1.Id))))) [],.q 9 46 (.pl (.one (.v (.sc (.bool x46))))) [8]] [(8,45),(9,46)] [(8,true,[],[]),(9,true,[8],[])] ⟨?_,?_,trivial⟩ ⟨rfl,shd [3,8,9,11,12,46] [(4,4),(5,5),(6,6),(7,7)] 8 rfl⟩
       ·refine qB 0 ⟨55,4,9,[(3,.pl (.one (.ref 4 []))),(8,.pl (.one (.ref 5 []))),(9,.pl (.one (.ref 6 []))),(11,.pl (.one (.ref 7 []))),(12,.pl (.one (.v (.sc (.int .i64 i))))),(43,.pl (.one (.ref 8 []))),(44,.pl (.one (.addr 6 [] 0 0 1)))],[(4,.box true [.list false 3 (List.map (zC false) s.Commits),.list false 2 (List.map (zD false) s.Files)]),(5,.list true 1 (List.map (rK .i64) out__1)),(6,.box true [.sc (.string x18.1.Path),.sc (.int .i64 x18.1.Id),.sc (.int .i64 x18.1.Version)]),(7,.list true 1 (List.map (rK .i64) x30)),(8,.list true 1 (List.map (rK .i64) x43))]⟩ ?_
        refine ops H' ?_
        refine zG ⟨rfl,shd [45,3,8,9,11,12,43,44] [(4,4),(5,5),(6,6),(7,7),(8,8)] 9 rfl⟩
       ·refine qB 1 ⟨55,4,9,[(45,.pl (.one (.v (.sc (.int .i64 x18.1.Id))))),(3,.pl (.one (.ref 4 []))),(8,.pl (.one (.ref 5 []))),(9,.pl (.one (.ref 6 []))),(11,.pl (.one (.ref 7 []))),(12,.pl (.one (.v (.sc (.int .i64 i))))),(43,.pl (.one (.ref 8 []))),(44,.pl (.one (.addr 6 [] 0 0 1)))],[(4,.box true [.list false 3 (List.map (zC false) s.Commits),.list false 2 (List.map (zD false) s.Files)]),(5,.list true 1 (List.map (rK .i64) out__1)),(6,.box true [.sc (.string x18.1.Path),.sc (.int .i64 x18.1.Id),.sc (.int .i64 x18.1.Version)]),(7,.list true 1 (List.map (rK .i64) x30)),(8,.list true 1 (List.map (rK .i64) x43))]⟩ ?_
        refine zR H' (fun _=>[]) (W_spec_l07In _ _ _ hy_x46) ?_
        refine zG ⟨rfl,shd [46,3,8,9,11,12,43,44] [(4,4),(5,5),(6,6),(7,7),(8,8)] 9 rfl⟩
      have d5':anyF X ?o1 [0,2,3,4,7] [(1,38,.pl (.one (.v (.list false 3 (List.map (zC false) s.Commits))))),(5,42,.pl (.one (.v (.sc (.int .i64 x))))),(8,45,.pl (.one (.v (.sc (.int .i64 x18.1.Id))))),(9,46,.pl (.one (.v (.sc (.bool x46)))))] ?P1 ⟨55,4,8,[(3,.pl (.one (.ref 4 []))),(8,.pl (.one (.ref 5 []))),(9,.pl (.one (.ref 6 []))),(11,.pl (.one (.ref 7 []))),(12,.pl (.one (.v (.sc (.int .i64 i))))),(37,.pl (.one (.addr 4 [] 0 0 0))),(41,.pl (.one (.addr 7 [] 1 i.toNat 0))),(44,.pl (.one (.addr 6 [] 0 0 1)))],[(4,.box true [.list false 3 (List.map (zC false) s.Commits),.list false 2 (List.map (zD false) s.Files)]),(5,.list true 1 (List.map (rK .i64) out__1)),(6,.box true [.sc (.string x18.1.Path),.sc (.int .i64 x18.1.Id),.sc (.int .i64 x18.1.Version)]),(7,.list true 1 (List.map (rK .i64) x30))]⟩:=by
       refine fnode [1,5,8] [.q 1 38 (.pl (.one (.v (.list false 3 (List.map (zC false) s.Commits))))) [],.q 5 42 (.pl (.one (.v (.sc (.int .i64 x))))) [],.q 8 45 (.pl (.one (.v (.sc (.int .i64 x18.1.Id))))) [],.m 6 [1,5] [0,1,2,3,4,5,6,7] [(8,45,.pl (.one (.v (.sc (.int .i64 x18.1.Id))))),(9,46,.pl (.one (.v (.sc (.bool x46)))))]] [(1,38),(5,42),(8,45),(9,46)] [(1,true,[],[]),(5,true,[],[]),(8,true,[],[]),(6,false,[1,5],[0,1,2,3,4,5,6,7])] ⟨?_,?_,?_,?_,trivial⟩
       ·refine qB 0 ⟨55,4,8,[(3,.pl (.one (.ref 4 []))),(8,.pl (.one (.ref 5 []))),(9,.pl (.one (.ref 6 []))),(11,.pl (.one (.ref 7 []))),(12,.pl (.one (.v (.sc (.int .i64 i))))),(37,.pl (.one (.addr 4 [] 0 0 0))),(41,.pl (.one (.addr 7 [] 1 i.toNat 0))),(44,.pl (.one (.addr 6 [] 0 0 1)))],[(4,.box true [.list false 3 (List.map (zC false) s.Commits),.list false 2 (List.map (zD false) s.Files)]),(5,.list true 1 (List.map (rK .i64) out__1)),(6,.box true [.sc (.string x18.1.Path),.sc (.int .i64 x18.1.Id),.sc (.int .i64 x18.1.Version)]),(7,.list true 1 (List.map (rK .i64) x30))]⟩ ?_
        refine ops H' ?_
        refine zG ⟨rfl,shd [38,3,8,9,11,12,37,41,44] [(4,4),(5,5),(6,6),(7,7)] 8 rfl⟩
       ·refine qB 1 ⟨55,4,8,[(3,.pl (.one (.ref 4 []))),(8,.pl (.one (.ref 5 []))),(9,.pl (.one (.ref 6 []))),(11,.pl (.one (.ref 7 []))),(12,.pl (.one (.v (.sc (.int .i64 i))))),(37,.pl (.one (.addr 4 [] 0 0 0))),(41,.pl (.one (.addr 7 [] 1 i.toNat 0))),(44,.pl (.one (.addr 6 [] 0 0 1)))],[(4,.box true [.list false 3 (List.map (zC false) s.Commits),.list false 2 (List.map (zD false) s.Files)]),(5,.list true 1 (List.map (rK .i64) out__1)),(6,.box true [.sc (.string x18.1.Path),.sc (.int .i64 x18.1.Id),.sc (.int .i64 x18.1.Version)]),(7,.list true 1 (List.map (rK .i64) x30))]⟩ ?_
        refine ops H' ?_
        refine zG ⟨rfl,shd [42,3,8,9,11,12,37,41,44] [(4,4),(5,5),(6,6),(7,7)] 8 rfl⟩
       ·refine qB 2 ⟨55,4,8,[(3,.pl (.one (.ref 4 []))),(8,.pl (.one (.ref 5 []))),(9,.pl (.one (.ref 6 []))),(11,.pl (.one (.ref 7 []))),(12,.pl (.one (.v (.sc (.int .i64 i))))),(37,.pl (.one (.addr 4 [] 0 0 0))),(41,.pl (.one (.addr 7 [] 1 i.toNat 0))),(44,.pl (.one (.addr 6 [] 0 0 1)))],[(4,.box true [.list false 3 (List.map (zC false) s.Commits),.list false 2 (List.map (zD false) s.Files)]),(5,.list true 1 (List.map (rK .i64) out__1)),(6,.box true [.sc (.string x18.1.Path),.sc (.int .i64 x18.1.Id),.sc (.int .i64 x18.1.Version)]),(7,.list true 1 (List.map (rK .i64) x30))]⟩ ?_
        refine ops H' ?_
        refine zG ⟨rfl,shd [45,3,8,9,11,12,37,41,44] [(4,4),(5,5),(6,6),(7,7)] 8 rfl⟩
       ·refine obMx ⟨55,4,8,[(38,.pl (.one (.v (.list false 3 (List.map (zC false) s.Commits))))),(42,.pl (.one (.v (.sc (.int .i64 x))))),(3,.pl (.one (.ref 4 []))),(8,.pl (.one (.ref 5 []))),(9,.pl (.one (.ref 6 []))),(11,.pl (.one (.ref 7 []))),(12,.pl (.one (.v (.sc (.int .i64 i))))),(37,.pl (.one (.addr 4 [] 0 0 0))),(41,.pl (.one (.addr 7 [] 1 i.toNat 0))),(44,.pl (.one (.addr 6 [] 0 0 1)))],[(4,.box true [.list false 3 (List.map (zC false) s.Commits),.list false 2 (List.map (zD false) s.Files)]),(5,.list true 1 (List.map (rK .i64) out__1)),(6,.box true [.sc (.string x18.1.Path),.sc (.int .i64 x18.1.Id),.sc (.int .i64 x18.1.Version)]),(7,.list true 1 (List.map (rK .i64) x30))]⟩ ?_
        refine zR H' (fun _=>[]) (W_spec_l14Touched _ _ _ hy_x43) ?_
        refine zG ⟨rfl,.inl ⟨rfl,?_⟩⟩
        exact qN [3,8,9,11,12,43,44] [(4,4),(5,5),(6,6),(7,7),(8,8)] 9 d4'
      refine fpure H' 0 [0] [(1,38),(5,42),(8,45),(9,46)] ?_
      refine fpure H' 2 [0,2] [(1,38),(5,42),(8,45),(9,46)] ?_
      refine fpure H' 3 [0,2,3] [(1,38),(5,42),(8,45),(9,46)] ?_
      refine fpure H' 4 [0,2,3,4] [(1,38),(5,42),(8,45),(9,46)] ?_
      refine fpure H' 7 [0,2,3,4,7] [(1,38),(5,42),(8,45),(9,46)] ?_
      exact qN [3,8,9,11,12,37,41,44] [(4,4),(5,5),(6,6),(7,7)] 8 d5'
     ·rintro e' rfl
      refine contN ?_
      refine zH (fun hc'=>?_) (fun hc'=>?_)
      ·replace h1':=(ifT hc').symm.trans h1'
       refine zA ?_
       obtain ⟨x_1,hv',h1'⟩:=zbi h1'
       have H':=And.intro (zP hv') H'
       obtain ⟨l,hv',h1'⟩:=zbi h1'
       have H':=And.intro (app1_f hv') H'
       refine ops H' ?_
       refine zE ?_
       refine zA ?_
       refine ops H' ?_
       refine zE ?_
       obtain rfl:=zso h1'
       exact shd [3,8,9,11,12] [(4,4),(5,5),(6,6),(7,7)] 8 ⟨_,rfl,_,_,rfl,rfl⟩
      ·replace h1':=(ifF hc').symm.trans h1'
       refine zM ?_
       refine zA ?_
       refine ops H' ?_
       refine zE ?_
       obtain rfl:=zso h1'
       exact shd [3,8,9,11,12] [(4,4),(5,5),(6,6),(7,7)] 8 ⟨_,rfl,_,_,rfl,rfl⟩
    ·replace h1':=(ifF hc').symm.trans h1'
     refine qJ ?_
     obtain rfl:=zso h1'
     refine ⟨_,rfl,fun hr'=>?_⟩
     subst hr'
     exact shd [8] [(5,4)] 5 ⟨_,h0',rfl⟩
   ·rintro e' ⟨out_,h0',rfl⟩
    unfold spec_FileLog_j1 at h0'
    refine zB ?_
    refine zA ?_
    refine ops H' ?_
    refine zE ?_
    refine zN ?_
    obtain rfl:=zso h0'
    exact zO H' rfl rfl
theorem W_impl_inRange (n:Int) (least:Int) (most:Int) (r':Bool) (h0':impl_inRange n least most=some r'):Fn X 181 [.one (.sc (.int .i64 n)),.one (.sc (.int .i64 least)),.one (.sc (.int .i64 most))] [.one (.sc (.bool r'))] []:=by
 have H':=t3
 unfold impl_inRange at h0'
 refine Fn.start (fn:=f181) (N:=15) (res:=[.tmp 6]) rfl rfl rfl rfl rfl (by simp) ?_
 refine zU H' ?_
 refine zB ?_
 refine zA ?_
 refine ops H' ?_
 refine zE ?_
 refine zB ?_
 refine zA ?_
 refine ops H' ?_
 obtain ⟨b,gh0',h0'⟩:=zbi h0'
 refine qC 4 (fun e'=>e'=⟨15,3,3,[(14,.pl (.one (.v (.sc (.bool b)))))],[]⟩) ?_ ?_
 ·simp only [List.take_succ_cons,List.take_zero]
  refine qE (fun hc'=>?_) (fun hc'=>?_)
  ·replace gh0':=(ifT hc').symm.trans gh0'
   refine ops H' ?_
   obtain rfl:=zso gh0'
   refine zG ?_
   exact ⟨rfl,shd [14] [] 3 rfl⟩
  ·replace gh0':=(ifF hc').symm.trans gh0'
   refine ops H' ?_
   obtain rfl:=zso gh0'
   refine zG ?_
   exact ⟨rfl,shd [14] [] 3 rfl⟩
 ·rintro e' rfl
  simp only [List.drop_succ_cons,List.drop_zero]
  refine ops H' ?_
  refine zE ?_
  refine zN ?_
  obtain rfl:=zso h0'
  exact zO H' rfl rfl
theorem W_impl_ascends (list_:List Int) (below:Int) (r':Bool) (h0':impl_ascends list_ below=some r'):Fn X 178 [.one (.list false 1 (List.map (rK .i64) list_)),.one (.sc (.int .i64 below))] [.one (.sc (.bool r'))] []:=by
 have H':=And.intro t3 (And.intro t40 (qK))
 unfold impl_ascends at h0'
 refine Fn.start (fn:=f178) (N:=33) (res:=[.tmp 4]) rfl rfl rfl rfl rfl (by simp) ?_
 refine zU H' ?_
 refine zB ?_
 refine zA ?_
 refine ops H' ?_
 refine zE ?_
 refine zV (fun e'=>impl_ascends_j1=some r'∧e'=⟨33,2,2,[],[]⟩) ?_ ?_
 ·refine zB ?_
  refine zA ?_
  refine ops H' ?_
  refine zE ?_
  obtain ⟨p,hl',h0'⟩:=zbi h0'
  refine zI ?_
  refine zS (fun x9 e'=>e'=⟨33,2,2,[(0,.pl (.one (.v (.list false 1 (List.map (rK .i64) list_))))),(1,.pl (.one (.v (.sc (.int .i64 below))))),(7,.pl (.one (.v (.list false 1 (List.map (rK .i64) list_))))),(8,.pl (.one (.v (.sc (.int .i64 (list_.length:Int)))))),(9,.pl (.one (.v (.sc (.int .i64 x9)))))],[]⟩) hl' (shd [0,1,7,8,9] [] 2 rfl) ?_
  rintro x9 y1' e' h1' rfl
  replace h1':jH list_ below x9=some y1':=h1'
  unfold jH at h1'
  refine zB ?_
  refine zA ?_
  refine ops H' ?_
  refine zE ?_
  refine zB ?_
  refine zH (fun hc'=>?_) (fun hc'=>?_)
  ·replace h1':=(ifT hc').symm.trans h1'
   refine zM ?_
   refine zB ?_
   refine zI ?_
   refine zB ?_
   refine zA ?_
   obtain ⟨x,hv',h1'⟩:=zbi h1'
   have H':=And.intro (zP hv') H'
   refine ops H' ?_
   refine zE ?_
   refine zB ?_
   refine zA ?_
   refine ops H' ?_
   obtain ⟨x17,hy',h1'⟩:=zbi h1'
   refine zR H' (fun _=>[]) (W_impl_inRange _ _ _ _ hy') ?_
   refine ops H' ?_
   obtain ⟨b,gh1',h1'⟩:=zbi h1'
   refine qC 12 (fun e'=>e'=⟨33,2,2,[(0,.pl (.one (.v (.list false 1 (List.map (rK .i64) list_))))),(1,.pl (.one (.v (.sc (.int .i64 below))))),(7,.pl (.one (.v (.list false 1 (List.map (rK .i64) list_))))),(8,.pl (.one (.v (.sc (.int .i64 (list_.length:Int)))))),(9,.pl (.one (.v (.sc (.int .i64 x9))))),(31,.pl (.one (.v (.sc (.bool b)))))],[]⟩) ?_ ?_
   ·simp only [List.take_succ_cons,List.take_zero]
    refine qE (fun hc'=>?_) (fun hc'=>?_)
    ·replace gh1':=(ifF hc').symm.trans gh1'
     refine ops H' ?_
     obtain ⟨b_1,ggh1',gh1'⟩:=zbi gh1'
     refine qC 8 (fun e'=>e'=⟨33,2,2,[(0,.pl (.one (.v (.list false 1 (List.map (rK .i64) list_))))),(1,.pl (.one (.v (.sc (.int .i64 below))))),(7,.pl (.one (.v (.list false 1 (List.map (rK .i64) list_))))),(8,.pl (.one (.v (.sc (.int .i64 (list_.length:Int)))))),(9,.pl (.one (.v (.sc (.int .i64 x9))))),(19,.pl (.one (.v (.sc (.bool false))))),(20,.pl (.one (.v (.sc (.int .i64 x9))))),(21,.pl (.one (.v (.sc (.bool (decide (x9 > 0))))))),(30,.pl (.one (.v (.sc (.bool b_1)))))],[]⟩) ?_ ?_
     ·simp only [List.take_succ_cons,List.take_zero]
      refine qE (fun hc'=>?_) (fun hc'=>?_)
      ·replace ggh1':=(ifT hc').symm.trans ggh1'
       obtain ⟨x_1,hv',ggh1'⟩:=zbi ggh1'
       have H':=And.intro (zP hv') H'
       refine ops H' ?_
       obtain rfl:=zso ggh1'
       refine zG ?_
       exact ⟨rfl,shd [0,1,7,8,9,19,20,21,30] [] 2 rfl⟩
      ·replace ggh1':=(ifF hc').symm.trans ggh1'
       refine ops H' ?_
       obtain rfl:=zso ggh1'
       refine zG ?_
       exact ⟨rfl,shd [0,1,7,8,9,19,20,21,30] [] 2 rfl⟩
     ·rintro e' rfl
      simp only [List.drop_succ_cons,List.drop_zero]
      refine ops H' ?_
      obtain rfl:=zso gh1'
      refine zG ?_
      exact ⟨rfl,shd [0,1,7,8,9,31] [] 2 rfl⟩
    ·replace gh1':=(ifT hc').symm.trans gh1'
     refine ops H' ?_
     obtain rfl:=zso gh1'
     refine zG ?_
     exact ⟨rfl,shd [0,1,7,8,9,31] [] 2 rfl⟩
   ·rintro e' rfl
    simp only [List.drop_succ_cons,List.drop_zero]
    refine zE ?_
    refine zH (fun hc'=>?_) (fun hc'=>?_)
    ·replace h1':=(ifT hc').symm.trans h1'
     refine zB ?_
     refine zA ?_
     refine ops H' ?_
     refine zE ?_
     refine zN ?_
     obtain rfl:=zso h1'
     refine ⟨_,rfl,fun hr'=>?_⟩
     subst hr'
     obtain rfl:=zso h0'
     exact zO H' rfl rfl
    ·replace h1':=(ifF hc').symm.trans h1'
     refine zM ?_
     refine zA ?_
     refine ops H' ?_
     refine zE ?_
     obtain rfl:=zso h1'
     exact shd [0,1,7,8,9] [] 2 ⟨_,rfl,rfl⟩
  ·replace h1':=(ifF hc').symm.trans h1'
   refine qJ ?_
   obtain rfl:=zso h1'
   refine ⟨_,rfl,fun hr'=>?_⟩
   subst hr'
   exact shd [] [] 2 ⟨h0',rfl⟩
 ·rintro e' ⟨h0',rfl⟩
  unfold impl_ascends_j1 at h0'
  refine zB ?_
  refine zA ?_
  refine ops H' ?_
  refine zE ?_
  refine zN ?_
  obtain rfl:=zso h0'
  exact zO H' rfl rfl
theorem W_impl_GraphOk (parents:List (List Int)) (r':Bool) (h0':impl_GraphOk parents=some r'):Fn X 79 [.one (.list false 1 (List.map (rL false 1 (rK .i64)) parents))] [.one (.sc (.bool r'))] []:=by
 have H':=And.intro t3 (And.intro t33 (And.intro t40 (And.intro qT (qK))))
 unfold impl_GraphOk at h0'
 refine Fn.start (fn:=f79) (N:=25) (res:=[.tmp 2]) rfl rfl rfl rfl rfl (by simp) ?_
 refine zU H' ?_
 refine zB ?_
 refine zA ?_
 refine ops H' ?_
 refine zE ?_
 refine zV (fun e'=>impl_GraphOk_j1 parents=some r'∧e'=⟨25,1,1,[(0,.pl (.one (.v (.list false 1 (List.map (rL false 1 (rK .i64)) parents)))))],[]⟩) ?_ ?_
 ·refine zB ?_
  refine zA ?_
  refine ops H' ?_
  refine zE ?_
  obtain ⟨p,hl',h0'⟩:=zbi h0'
  refine zI ?_
  refine zS (fun x7 e'=>e'=⟨25,1,1,[(0,.pl (.one (.v (.list false 1 (List.map (rL false 1 (rK .i64)) parents))))),(5,.pl (.one (.v (.list false 1 (List.map (rL false 1 (rK .i64)) parents))))),(6,.pl (.one (.v (.sc (.int .i64 (parents.length:Int)))))),(7,.pl (.one (.v (.sc (.int .i64 x7)))))],[]⟩) hl' (shd [0,5,6,7] [] 1 rfl) ?_
  rintro x7 y1' e' h1' rfl
  replace h1':jJ parents x7=some y1':=h1'
  unfold jJ at h1'
  refine zB ?_
  refine zA ?_
  refine ops H' ?_
  refine zE ?_
  refine zB ?_
  refine zH (fun hc'=>?_) (fun hc'=>?_)
  ·replace h1':=(ifT hc').symm.trans h1'
   refine zM ?_
   refine zB ?_
   refine zI ?_
   refine zB ?_
   refine zA ?_
   obtain ⟨x,hv',h1'⟩:=zbi h1'
   have H':=And.intro (zP hv') H'
   refine ops H' ?_
   refine zE ?_
   refine zB ?_
   refine zA ?_
   refine ops H' ?_
   obtain ⟨b,gh1',h1'⟩:=zbi h1'
   refine qC 5 (fun e'=>e'=⟨25,1,1,[(0,.pl (.one (.v (.list false 1 (List.map (rL false 1 (rK .i64)) parents))))),(5,.pl (.one (.v (.list false 1 (List.map (rL false 1 (rK .i64)) parents))))),(6,.pl (.one (.v (.sc (.int .i64 (parents.length:Int)))))),(7,.pl (.one (.v (.sc (.int .i64 x7))))),(20,.pl (.one (.v (.sc (.bool b)))))],[]⟩) ?_ ?_
   ·simp only [List.take_succ_cons,List.take_zero]
    refine qE (fun hc'=>?_) (fun hc'=>?_)
    ·replace gh1':=(ifF hc').symm.trans gh1'
     refine ops H' ?_
     obtain ⟨x18,hy',gh1'⟩:=zbi gh1'
     refine zR H' (fun _=>[]) (W_impl_ascends _ _ _ hy') ?_
     refine ops H' ?_
     obtain rfl:=zso gh1'
     refine zG ?_
     exact ⟨rfl,shd [0,5,6,7,20] [] 1 rfl⟩
    ·replace gh1':=(ifT hc').symm.trans gh1'
     refine ops H' ?_
     obtain rfl:=zso gh1'
     refine zG ?_
     exact ⟨rfl,shd [0,5,6,7,20] [] 1 rfl⟩
   ·rintro e' rfl
    simp only [List.drop_succ_cons,List.drop_zero]
    refine zE ?_
    refine zH (fun hc'=>?_) (fun hc'=>?_)
    ·replace h1':=(ifT hc').symm.trans h1'
     refine zB ?_
     refine zA ?_
     refine ops H' ?_
     refine zE ?_
     refine zN ?_
     obtain rfl:=zso h1'
     refine ⟨_,rfl,fun hr'=>?_⟩
     subst hr'
     obtain rfl:=zso h0'
     exact zO H' rfl rfl
    ·replace h1':=(ifF hc').symm.trans h1'
     refine zM ?_
     refine zA ?_
     refine ops H' ?_
     refine zE ?_
     obtain rfl:=zso h1'
     exact shd [0,5,6,7] [] 1 ⟨_,rfl,rfl⟩
  ·replace h1':=(ifF hc').symm.trans h1'
   refine qJ ?_
   obtain rfl:=zso h1'
   refine ⟨_,rfl,fun hr'=>?_⟩
   subst hr'
   exact shd [0] [] 1 ⟨h0',rfl⟩
 ·rintro e' ⟨h0',rfl⟩
  unfold impl_GraphOk_j1 at h0'
  refine zB ?_
  refine zA ?_
  refine ops H' ?_
  refine zE ?_
  refine zN ?_
  obtain rfl:=zso h0'
  exact zO H' rfl rfl
theorem W_impl_unionOf (closed:List Int) (list_:List Int) (r':Int) (h0':impl_unionOf closed list_=some r'):Fn X 185 [.one (.list false 1 (List.map (rK .u64) closed)),.one (.list false 1 (List.map (rK .i64) list_))] [.one (.sc (.int .u64 r'))] []:=by
 have H':=And.intro t3 (And.intro t40 (And.intro t136 (And.intro t137 (And.intro qK (R_u64)))))
 unfold impl_unionOf at h0'
 refine Fn.start (fn:=f185) (N:=22) (res:=[.tmp 4]) rfl rfl rfl rfl rfl (by simp) ?_
 refine zU H' ?_
 refine zB ?_
 refine zA ?_
 refine ops H' ?_
 refine zE ?_
 refine zB ?_
 refine zA ?_
 refine ops H' ?_
 refine zE ?_
 refine zV (fun e'=>∃ s,impl_unionOf_j1 s=some r'∧e'=⟨22,2,2,[(5,.pl (.one (.v (.sc (.int .u64 s)))))],[]⟩) ?_ ?_
 ·refine zB ?_
  refine zA ?_
  refine ops H' ?_
  refine zE ?_
  obtain ⟨p,hl',h0'⟩:=zbi h0'
  refine zI ?_
  refine zS (fun s' e'=>∃ s_1 x10,s'=(s_1,x10)∧e'=⟨22,2,2,[(0,.pl (.one (.v (.list false 1 (List.map (rK .u64) closed))))),(5,.pl (.one (.v (.sc (.int .u64 s_1))))),(8,.pl (.one (.v (.list false 1 (List.map (rK .i64) list_))))),(9,.pl (.one (.v (.sc (.int .i64 (list_.length:Int)))))),(10,.pl (.one (.v (.sc (.int .i64 x10)))))],[]⟩) hl' (shd [0,5,8,9,10] [] 2 ⟨_,_,rfl,rfl⟩) ?_
  rintro s' y1' e' h1' ⟨s_1,x10,rfl,rfl⟩
  replace h1':impl_unionOf_l1 closed list_ s_1 x10=some y1':=h1'
  unfold impl_unionOf_l1 at h1'
  refine zB ?_
  refine zA ?_
  refine ops H' ?_
  refine zE ?_
  refine zB ?_
  refine zH (fun hc'=>?_) (fun hc'=>?_)
  ·replace h1':=(ifT hc').symm.trans h1'
   refine zM ?_
   refine zB ?_
   refine zI ?_
   refine zB ?_
   refine zA ?_
   obtain ⟨x,hv',h1'⟩:=zbi h1'
   have H':=And.intro (zP hv') H'
   refine ops H' ?_
   refine zE ?_
   refine zA ?_
   obtain ⟨x_1,hv',h1'⟩:=zbi h1'
   have H':=And.intro (zP hv') H'
   refine ops H' ?_
   refine zE ?_
   refine zA ?_
   refine ops H' ?_
   refine zE ?_
   obtain rfl:=zso h1'
   exact shd [0,5,8,9,10] [] 2 ⟨_,rfl,_,_,rfl,rfl⟩
  ·replace h1':=(ifF hc').symm.trans h1'
   refine qJ ?_
   obtain rfl:=zso h1'
   refine ⟨_,rfl,fun hr'=>?_⟩
   subst hr'
   exact shd [5] [] 2 ⟨_,h0',rfl⟩
 ·rintro e' ⟨s,h0',rfl⟩
  unfold impl_unionOf_j1 at h0'
  refine zB ?_
  refine zA ?_
  refine ops H' ?_
  refine zE ?_
  refine zN ?_
  obtain rfl:=zso h0'
  exact zO H' rfl rfl
theorem W_impl_closures (parents:List (List Int)) (r':(List Int)) (h0':impl_closures parents=some r'):Fn X 88 [.one (.list false 1 (List.map (rL false 1 (rK .i64)) parents))] [.one (.list true 1 (List.map (rK .u64) r'))] []:=by
 have H':=And.intro t3 (And.intro t33 (And.intro t40 (And.intro t136 (And.intro t137 (And.intro t239 (And.intro qT (And.intro qK (R_u64))))))))
 unfold impl_closures at h0'
 refine Fn.start (fn:=f88) (N:=28) (res:=[.tmp 2]) rfl rfl rfl rfl rfl (by simp) ?_
 refine zU H' ?_
 refine zB ?_
 refine zA ?_
 refine ops H' ?_
 refine zE ?_
 refine zB ?_
 refine zA ?_
 obtain ⟨x8,hv',h0'⟩:=zbi h0'
 have H':=And.intro (mkl_f hv') H'
 refine ops H' ?_
 refine zE ?_
 refine zV (fun e'=>∃ out_,impl_closures_j1 out_=some r'∧e'=⟨28,1,2,[(3,.pl (.one (.ref 1 [])))],[(1,.list true 1 (List.map (rK .u64) out_))]⟩) ?_ ?_
 ·refine zB ?_
  refine zA ?_
  refine ops H' ?_
  refine zE ?_
  obtain ⟨p,hl',h0'⟩:=zbi h0'
  refine zI ?_
  refine zS (fun s' e'=>∃ x11 out__1,s'=(x11,out__1)∧e'=⟨28,1,2,[(3,.pl (.one (.ref 1 []))),(9,.pl (.one (.v (.list false 1 (List.map (rL false 1 (rK .i64)) parents))))),(10,.pl (.one (.v (.sc (.int .i64 (parents.length:Int)))))),(11,.pl (.one (.v (.sc (.int .i64 x11)))))],[(1,.list true 1 (List.map (rK .u64) out__1))]⟩) hl' (shd [3,9,10,11] [(2,1)] 2 ⟨_,_,rfl,rfl⟩) ?_
  rintro s' y1' e' h1' ⟨x11,out__1,rfl,rfl⟩
  replace h1':impl_closures_l1 parents x11 out__1=some y1':=h1'
  unfold impl_closures_l1 at h1'
  refine zB ?_
  refine zA ?_
  refine ops H' ?_
  refine zE ?_
  refine zB ?_
  refine zH (fun hc'=>?_) (fun hc'=>?_)
  ·replace h1':=(ifT hc').symm.trans h1'
   refine zM ?_
   refine zB ?_
   refine zI ?_
   refine zB ?_
   refine zA ?_
   obtain ⟨x,hv',h1'⟩:=zbi h1'
   have H':=And.intro (zP hv') H'
   refine ops H' ?_
   refine zE ?_
   refine zA ?_
   refine ops H' ?_
   obtain ⟨x20,hy',h1'⟩:=zbi h1'
   refine zR H' (fun _=>[]) (W_impl_unionOf _ _ _ hy') ?_
   obtain ⟨u,hv',h1'⟩:=zbi h1'
   have H':=And.intro (chkF hv') H'
   obtain ⟨x_1,hv',h1'⟩:=zbi h1'
   have H':=And.intro (zP hv') H'
   refine ops H' ?_
   refine zE ?_
   refine zA ?_
   refine ops H' ?_
   refine zE ?_
   obtain rfl:=zso h1'
   exact shd [3,9,10,11] [(1,1)] 2 ⟨_,rfl,_,_,rfl,rfl⟩
  ·replace h1':=(ifF hc').symm.trans h1'
   refine qJ ?_
   obtain rfl:=zso h1'
   refine ⟨_,rfl,fun hr'=>?_⟩
   subst hr'
   exact shd [3] [(1,1)] 2 ⟨_,h0',rfl⟩
 ·rintro e' ⟨out_,h0',rfl⟩
  unfold impl_closures_j1 at h0'
  refine zB ?_
  refine zA ?_
  refine ops H' ?_
  refine zE ?_
  refine zN ?_
  obtain rfl:=zso h0'
  exact zO H' rfl rfl
theorem W_strings_Contains (s:ByteArray) (x:ByteArray) (r':Bool) (h0':strings_Contains s x=some r'):Fn X 258 [.one (.sc (.string s)),.one (.sc (.string x))] [.one (.sc (.bool r'))] []:=by
 unfold strings_Contains at h0'
 split at h0'
 case isFalse=>cases h0'
 rename_i hs
 obtain rfl:=zso h0'
 exact Fn_pureB ⟨_,Go.Proofs.Tryz.func258,rfl,rfl⟩ (fun w hg=>by
  obtain ⟨y,hy,hy2⟩:=hg _ _ (by rfl:X.G (Go.Proofs.Tryz.lays144_ren.g 1)=some isNum)
  obtain ⟨m,hm⟩:=isNum_cell hy hy2
  exact Go.Proofs.Any.strings_Contains {Go.Proofs.Tryz.lays144 with} s x m w hs hm)
theorem W_impl_LineOk (line:ByteArray) (r':Bool) (h0':impl_LineOk line=some r'):Fn X 238 [.one (.sc (.string line))] [.one (.sc (.bool r'))] []:=by
 have H':=And.intro t3 (t9)
 unfold impl_LineOk at h0'
 refine Fn.start (fn:=f238) (N:=11) (res:=[.tmp 2]) rfl rfl rfl rfl rfl (by simp) ?_
 refine zU H' ?_
 refine zB ?_
 refine zA ?_
 refine ops H' ?_
 refine zE ?_
 refine zB ?_
 refine zA ?_
 refine ops H' ?_
 obtain ⟨b,gh0',h0'⟩:=zbi h0'
 refine qC 4 (fun e'=>e'=⟨11,1,1,[(10,.pl (.one (.v (.sc (.bool b)))))],[]⟩) ?_ ?_
 ·simp only [List.take_succ_cons,List.take_zero]
  refine qE (fun hc'=>?_) (fun hc'=>?_)
  ·replace gh0':=(ifT hc').symm.trans gh0'
   refine ops H' ?_
   obtain ⟨x8,hy',gh0'⟩:=zbi gh0'
   refine zR H' (fun _=>[]) (W_strings_Contains _ _ _ hy') ?_
   refine ops H' ?_
   obtain rfl:=zso gh0'
   refine zG ?_
   exact ⟨rfl,shd [10] [] 1 rfl⟩
  ·replace gh0':=(ifF hc').symm.trans gh0'
   refine ops H' ?_
   obtain rfl:=zso gh0'
   refine zG ?_
   exact ⟨rfl,shd [10] [] 1 rfl⟩
 ·rintro e' rfl
  simp only [List.drop_succ_cons,List.drop_zero]
  refine ops H' ?_
  refine zE ?_
  refine zN ?_
  obtain rfl:=zso h0'
  exact zO H' rfl rfl
theorem W_impl_isPlace (n:Int) (size:Int) (r':Bool) (h0':impl_isPlace n size=some r'):Fn X 82 [.one (.sc (.int .i64 n)),.one (.sc (.int .i64 size))] [.one (.sc (.bool r'))] []:=by
 have H':=t3
 unfold impl_isPlace at h0'
 refine Fn.start (fn:=f82) (N:=9) (res:=[.tmp 4]) rfl rfl rfl rfl rfl (by simp) ?_
 refine zU H' ?_
 refine zB ?_
 refine zA ?_
 refine ops H' ?_
 refine zE ?_
 refine zB ?_
 refine zA ?_
 refine ops H' ?_
 obtain ⟨x8,hy',h0'⟩:=zbi h0'
 refine zR H' (fun _=>[]) (W_impl_inRange _ _ _ _ hy') ?_
 refine ops H' ?_
 refine zE ?_
 refine zN ?_
 obtain rfl:=zso h0'
 exact zO H' rfl rfl
theorem W_impl_set_has (s:Int) (v:Int) (r':Bool) (h0':impl_set_has s v=some r'):Fn X 186 [.one (.sc (.int .u64 s)),.one (.sc (.int .i64 v))] [.one (.sc (.bool r'))] []:=by
 have H':=And.intro t3 (And.intro t136 (t239))
 unfold impl_set_has at h0'
 refine Fn.start (fn:=f186) (N:=15) (res:=[.tmp 4]) rfl rfl rfl rfl rfl (by simp) ?_
 refine zU H' ?_
 refine zB ?_
 refine zA ?_
 refine ops H' ?_
 refine zE ?_
 refine zB ?_
 refine zA ?_
 refine ops H' ?_
 obtain ⟨x6,hy',h0'⟩:=zbi h0'
 refine zR H' (fun _=>[]) (W_impl_inRange _ _ _ _ hy') ?_
 refine ops H' ?_
 obtain ⟨b,gh0',h0'⟩:=zbi h0'
 refine qC 7 (fun e'=>e'=⟨15,2,2,[(14,.pl (.one (.v (.sc (.bool b)))))],[]⟩) ?_ ?_
 ·simp only [List.take_succ_cons,List.take_zero]
  refine qE (fun hc'=>?_) (fun hc'=>?_)
  ·replace gh0':=(ifT hc').symm.trans gh0'
   obtain ⟨u,hv',gh0'⟩:=zbi gh0'
   have H':=And.intro (chkF hv') H'
   refine ops H' ?_
   obtain rfl:=zso gh0'
   refine zG ?_
   exact ⟨rfl,shd [14] [] 2 rfl⟩
  ·replace gh0':=(ifF hc').symm.trans gh0'
   refine ops H' ?_
   obtain rfl:=zso gh0'
   refine zG ?_
   exact ⟨rfl,shd [14] [] 2 rfl⟩
 ·rintro e' rfl
  simp only [List.drop_succ_cons,List.drop_zero]
  refine ops H' ?_
  refine zE ?_
  refine zN ?_
  obtain rfl:=zso h0'
  exact zO H' rfl rfl
theorem W_impl_setOf (list_:List Int) (r':Int) (h0':impl_setOf list_=some r'):Fn X 92 [.one (.list false 1 (List.map (rK .i64) list_))] [.one (.sc (.int .u64 r'))] []:=by
 have H':=And.intro t3 (And.intro t40 (And.intro t136 (And.intro t239 (qK))))
 unfold impl_setOf at h0'
 refine Fn.start (fn:=f92) (N:=21) (res:=[.tmp 2]) rfl rfl rfl rfl rfl (by simp) ?_
 refine zU H' ?_
 refine zB ?_
 refine zA ?_
 refine ops H' ?_
 refine zE ?_
 refine zB ?_
 refine zA ?_
 refine ops H' ?_
 refine zE ?_
 refine zV (fun e'=>∃ s,impl_setOf_j1 s=some r'∧e'=⟨21,1,1,[(3,.pl (.one (.v (.sc (.int .u64 s)))))],[]⟩) ?_ ?_
 ·refine zB ?_
  refine zA ?_
  refine ops H' ?_
  refine zE ?_
  obtain ⟨p,hl',h0'⟩:=zbi h0'
  refine zI ?_
  refine zS (fun s' e'=>∃ s_1 x8,s'=(s_1,x8)∧e'=⟨21,1,1,[(3,.pl (.one (.v (.sc (.int .u64 s_1))))),(6,.pl (.one (.v (.list false 1 (List.map (rK .i64) list_))))),(7,.pl (.one (.v (.sc (.int .i64 (list_.length:Int)))))),(8,.pl (.one (.v (.sc (.int .i64 x8)))))],[]⟩) hl' (shd [3,6,7,8] [] 1 ⟨_,_,rfl,rfl⟩) ?_
  rintro s' y1' e' h1' ⟨s_1,x8,rfl,rfl⟩
  replace h1':impl_setOf_l1 list_ s_1 x8=some y1':=h1'
  unfold impl_setOf_l1 at h1'
  refine zB ?_
  refine zA ?_
  refine ops H' ?_
  refine zE ?_
  refine zB ?_
  refine zH (fun hc'=>?_) (fun hc'=>?_)
  ·replace h1':=(ifT hc').symm.trans h1'
   refine zM ?_
   refine zB ?_
   refine zI ?_
   refine zB ?_
   refine zA ?_
   obtain ⟨x,hv',h1'⟩:=zbi h1'
   have H':=And.intro (zP hv') H'
   refine ops H' ?_
   refine zE ?_
   refine zB ?_
   refine zA ?_
   refine ops H' ?_
   obtain ⟨x13,hy',h1'⟩:=zbi h1'
   refine zR H' (fun _=>[]) (W_impl_inRange _ _ _ _ hy') ?_
   refine zE ?_
   refine zH (fun hc'=>?_) (fun hc'=>?_)
   ·replace h1':=(ifT hc').symm.trans h1'
    refine zA ?_
    obtain ⟨u,hv',h1'⟩:=zbi h1'
    have H':=And.intro (chkF hv') H'
    refine ops H' ?_
    refine zE ?_
    refine zA ?_
    refine ops H' ?_
    refine zE ?_
    obtain rfl:=zso h1'
    exact shd [3,6,7,8] [] 1 ⟨_,rfl,_,_,rfl,rfl⟩
   ·replace h1':=(ifF hc').symm.trans h1'
    refine zM ?_
    refine zA ?_
    refine ops H' ?_
    refine zE ?_
    obtain rfl:=zso h1'
    exact shd [3,6,7,8] [] 1 ⟨_,rfl,_,_,rfl,rfl⟩
  ·replace h1':=(ifF hc').symm.trans h1'
   refine qJ ?_
   obtain rfl:=zso h1'
   refine ⟨_,rfl,fun hr'=>?_⟩
   subst hr'
   exact shd [3] [] 1 ⟨_,h0',rfl⟩
 ·rintro e' ⟨s,h0',rfl⟩
  unfold impl_setOf_j1 at h0'
  refine zB ?_
  refine zA ?_
  refine ops H' ?_
  refine zE ?_
  refine zN ?_
  obtain rfl:=zso h0'
  exact zO H' rfl rfl
theorem W_impl_Body_isLive (b:T_impl_Body) (s:Int) (r':Bool) (h0':impl_Body_isLive b s=some r'):Fn X 188 [.agg [.sc (.string b.Line),.sc (.int .i64 b.Ins),.sc (.int .i64 b.Ord),.list false 1 (List.map (rK .i64) b.Dels)],.one (.sc (.int .u64 s))] [.one (.sc (.bool r'))] []:=by
 have H':=And.intro t3 (And.intro t40 (And.intro t73 (And.intro t136 (qK))))
 unfold impl_Body_isLive at h0'
 refine Fn.start (fn:=f188) (N:=17) (res:=[.tmp 4]) rfl rfl rfl rfl rfl (by simp) ?_
 refine zU H' ?_
 refine zB ?_
 refine zA ?_
 refine ops H' ?_
 refine zE ?_
 refine zB ?_
 refine zA ?_
 refine ops H' ?_
 obtain ⟨x8,hy',h0'⟩:=zbi h0'
 refine zR H' (fun _=>[]) (W_impl_set_has _ _ _ hy') ?_
 refine ops H' ?_
 obtain ⟨b_1,gh0',h0'⟩:=zbi h0'
 refine qC 7 (fun e'=>e'=⟨17,5,5,[(16,.pl (.one (.v (.sc (.bool b_1)))))],[]⟩) ?_ ?_
 ·simp only [List.take_succ_cons,List.take_zero]
  refine qE (fun hc'=>?_) (fun hc'=>?_)
  ·replace gh0':=(ifT hc').symm.trans gh0'
   refine ops H' ?_
   obtain ⟨x12,hy',gh0'⟩:=zbi gh0'
   refine zR H' (fun _=>[]) (W_impl_setOf _ _ hy') ?_
   refine ops H' ?_
   obtain rfl:=zso gh0'
   refine zG ?_
   exact ⟨rfl,shd [16] [] 5 rfl⟩
  ·replace gh0':=(ifF hc').symm.trans gh0'
   refine ops H' ?_
   obtain rfl:=zso gh0'
   refine zG ?_
   exact ⟨rfl,shd [16] [] 5 rfl⟩
 ·rintro e' rfl
  simp only [List.drop_succ_cons,List.drop_zero]
  refine ops H' ?_
  refine zE ?_
  refine zN ?_
  obtain rfl:=zso h0'
  exact zO H' rfl rfl
theorem W_impl_Weave_liveIn (w:T_impl_Weave) (s:Int) (r':(List Int)) (h0':impl_Weave_liveIn w s=some r'):Fn X 91 [.one (.box false [.list false 1 (List.map (rL false 1 (rK .i64)) w.Parents),.list false 4 (List.map (zF false) w.Bodies)]),.one (.sc (.int .u64 s))] [.one (.list true 1 (List.map (rK .i64) r'))] []:=by
 have H':=And.intro t3 (And.intro t34 (And.intro t36 (And.intro t40 (And.intro t73 (And.intro qT (And.intro qL (qK)))))))
 unfold impl_Weave_liveIn at h0'
 refine Fn.start (fn:=f91) (N:=27) (res:=[.tmp 4]) rfl rfl rfl rfl rfl (by simp) ?_
 refine zU H' ?_
 refine zB ?_
 refine zA ?_
 refine ops H' ?_
 refine zE ?_
 refine zB ?_
 refine zA ?_
 refine ops H' ?_
 refine zE ?_
 refine zV (fun e'=>∃ out_,impl_Weave_liveIn_j1 out_=some r'∧e'=⟨27,2,3,[(5,.pl (.one (.ref 2 [])))],[(2,.list true 1 (List.map (rK .i64) out_))]⟩) ?_ ?_
 ·refine zB ?_
  refine zA ?_
  refine ops H' ?_
  refine zE ?_
  obtain ⟨p,hl',h0'⟩:=zbi h0'
  refine zI ?_
  refine zS (fun s' e'=>∃ x13 out__1,s'=(x13,out__1)∧e'=⟨27,2,3,[(1,.pl (.one (.v (.sc (.int .u64 s))))),(5,.pl (.one (.ref 2 []))),(11,.pl (.one (.v (.list false 4 (List.map (zF false) w.Bodies))))),(12,.pl (.one (.v (.sc (.int .i64 (w.Bodies.length:Int)))))),(13,.pl (.one (.v (.sc (.int .i64 x13)))))],[(2,.list true 1 (List.map (rK .i64) out__1))]⟩) hl' (shd [1,5,11,12,13] [(3,2)] 3 ⟨_,_,rfl,rfl⟩) ?_
  rintro s' y1' e' h1' ⟨x13,out__1,rfl,rfl⟩
  replace h1':jC w s x13 out__1=some y1':=h1'
  unfold jC at h1'
  refine zB ?_
  refine zA ?_
  refine ops H' ?_
  refine zE ?_
  refine zB ?_
  refine zH (fun hc'=>?_) (fun hc'=>?_)
  ·replace h1':=(ifT hc').symm.trans h1'
   refine zM ?_
   refine zB ?_
   refine zI ?_
   refine zB ?_
   refine zA ?_
   obtain ⟨x,hv',h1'⟩:=zbi h1'
   have H':=And.intro (zP hv') H'
   refine ops H' ?_
   refine zE ?_
   refine zB ?_
   refine zA ?_
   refine ops H' ?_
   obtain ⟨x20,hy',h1'⟩:=zbi h1'
   refine zR H' (fun _=>[]) (W_impl_Body_isLive _ _ _ hy') ?_
   refine zE ?_
   refine zH (fun hc'=>?_) (fun hc'=>?_)
   ·replace h1':=(ifT hc').symm.trans h1'
    refine zA ?_
    obtain ⟨l,hv',h1'⟩:=zbi h1'
    have H':=And.intro (app1_f hv') H'
    refine ops H' ?_
    refine zE ?_
    refine zA ?_
    refine ops H' ?_
    refine zE ?_
    obtain rfl:=zso h1'
    exact shd [1,5,11,12,13] [(2,2)] 3 ⟨_,rfl,_,_,rfl,rfl⟩
   ·replace h1':=(ifF hc').symm.trans h1'
    refine zM ?_
    refine zA ?_
    refine ops H' ?_
    refine zE ?_
    obtain rfl:=zso h1'
    exact shd [1,5,11,12,13] [(2,2)] 3 ⟨_,rfl,_,_,rfl,rfl⟩
  ·replace h1':=(ifF hc').symm.trans h1'
   refine qJ ?_
   obtain rfl:=zso h1'
   refine ⟨_,rfl,fun hr'=>?_⟩
   subst hr'
   exact shd [5] [(2,2)] 3 ⟨_,h0',rfl⟩
 ·rintro e' ⟨out_,h0',rfl⟩
  unfold impl_Weave_liveIn_j1 at h0'
  refine zB ?_
  refine zA ?_
  refine ops H' ?_
  refine zE ?_
  refine zN ?_
  obtain rfl:=zso h0'
  exact zO H' rfl rfl
theorem W_impl_bodiesOk (w:T_impl_Weave) (closed:List Int) (r':Bool) (h0':impl_bodiesOk w closed=some r'):Fn X 176 [.agg [.list false 1 (List.map (rL false 1 (rK .i64)) w.Parents),.list false 4 (List.map (zF false) w.Bodies)],.one (.list false 1 (List.map (rK .u64) closed))] [.one (.sc (.bool r'))] []:=by
 have H':=And.intro t3 (And.intro t9 (And.intro t33 (And.intro t34 (And.intro t36 (And.intro t40 (And.intro t73 (And.intro t136 (And.intro t137 (And.intro qT (And.intro qL (And.intro qK (R_u64))))))))))))
 unfold impl_bodiesOk at h0'
 refine Fn.start (fn:=f176) (N:=97) (res:=[.tmp 4]) rfl rfl rfl rfl rfl (by simp) ?_
 refine zU H' ?_
 refine zB ?_
 refine zA ?_
 refine ops H' ?_
 refine zE ?_
 refine zB ?_
 refine zA ?_
 obtain ⟨x14,hv',h0'⟩:=zbi h0'
 have H':=And.intro (mkl_f hv') H'
 refine ops H' ?_
 refine zE ?_
 refine zV (fun e'=>∃ born,impl_bodiesOk_j1 w closed born=some r'∧e'=⟨97,3,5,[(1,.pl (.one (.v (.list false 1 (List.map (rK .u64) closed))))),(2,.pl (.one (.ref 3 []))),(5,.pl (.one (.ref 4 [])))],[(3,.box true [.list false 1 (List.map (rL false 1 (rK .i64)) w.Parents),.list false 4 (List.map (zF false) w.Bodies)]),(4,.list true 1 (List.map (rK .i64) born))]⟩) ?_ ?_
 ·refine zB ?_
  refine zA ?_
  refine ops H' ?_
  refine zE ?_
  obtain ⟨p_1,hl',h0'⟩:=zbi h0'
  refine zI ?_
  refine zS (fun s' e'=>∃ x18 born_1,s'=(x18,born_1)∧e'=⟨97,3,5,[(1,.pl (.one (.v (.list false 1 (List.map (rK .u64) closed))))),(2,.pl (.one (.ref 3 []))),(5,.pl (.one (.ref 4 []))),(16,.pl (.one (.v (.list false 4 (List.map (zF false) w.Bodies))))),(17,.pl (.one (.v (.sc (.int .i64 (w.Bodies.length:Int)))))),(18,.pl (.one (.v (.sc (.int .i64 x18)))))],[(3,.box true [.list false 1 (List.map (rL false 1 (rK .i64)) w.Parents),.list false 4 (List.map (zF false) w.Bodies)]),(4,.list true 1 (List.map (rK .i64) born_1))]⟩) hl' (shd [1,2,5,16,17,18] [(3,3),(4,4)] 5 ⟨_,_,rfl,rfl⟩) ?_
  rintro s' y1' e' h1' ⟨x18,born_1,rfl,rfl⟩
  replace h1':jB w closed x18 born_1=some y1':=h1'
  unfold jB at h1'
  refine zB ?_
  refine zA ?_
  refine ops H' ?_
  refine zE ?_
  refine zB ?_
  refine zH (fun hc'=>?_) (fun hc'=>?_)
  ·replace h1':=(ifT hc').symm.trans h1'
   refine zM ?_
   refine zV (fun e'=>∃ born_2,impl_bodiesOk_j3 x18 born_2=some y1'∧e'=⟨97,3,5,[(1,.pl (.one (.v (.list false 1 (List.map (rK .u64) closed))))),(2,.pl (.one (.ref 3 []))),(5,.pl (.one (.ref 4 []))),(16,.pl (.one (.v (.list false 4 (List.map (zF false) w.Bodies))))),(17,.pl (.one (.v (.sc (.int .i64 (w.Bodies.length:Int)))))),(18,.pl (.one (.v (.sc (.int .i64 x18)))))],[(3,.box true [.list false 1 (List.map (rL false 1 (rK .i64)) w.Parents),.list false 4 (List.map (zF false) w.Bodies)]),(4,.list true 1 (List.map (rK .i64) born_2))]⟩) ?_ ?_
   ·refine zI ?_
    refine zB ?_
    refine zA ?_
    obtain ⟨x_2,hv',h1'⟩:=zbi h1'
    have H':=And.intro (zP hv') H'
    refine ops H' ?_
    refine zE ?_
    refine zB ?_
    refine zB ?_
    refine regQ ?_
    refine ops H' ?_
    obtain ⟨x24,hy',h1'⟩:=zbi h1'
    refine callGQ H' (W_impl_LineOk _ _ hy') ?_
    refine ops H' ?_
    obtain ⟨b_1,gh1',h1'⟩:=zbi h1'
    refine quV_cut 7 (fun e'=>e'=⟨97,3,6,[(1,.pl (.one (.v (.list false 1 (List.map (rK .u64) closed))))),(2,.pl (.one (.ref 3 []))),(5,.pl (.one (.ref 4 []))),(7,.pl (.one (.ref 5 []))),(16,.pl (.one (.v (.list false 4 (List.map (zF false) w.Bodies))))),(17,.pl (.one (.v (.sc (.int .i64 (w.Bodies.length:Int)))))),(18,.pl (.one (.v (.sc (.int .i64 x18))))),(33,.pl (.one (.v (.sc (.bool b_1)))))],[(3,.box true [.list false 1 (List.map (rL false 1 (rK .i64)) w.Parents),.list false 4 (List.map (zF false) w.Bodies)]),(4,.list true 1 (List.map (rK .i64) born_1)),(5,.box true [.sc (.string x_2.Line),.sc (.int .i64 x_2.Ins),.sc (.int .i64 x_2.Ord),.list false 1 (List.map (rK .i64) x_2.Dels)])]⟩) ?_ ?_
    ·simp only [List.take_succ_cons,List.take_zero]
     refine quV_sp (fun hc'=>?_) (fun hc'=>?_)
     ·replace gh1':=(ifF hc').symm.trans gh1'
      refine ops H' ?_
      obtain ⟨x31,hy',gh1'⟩:=zbi gh1'
      refine callGQ H' (W_impl_isPlace _ _ _ hy') ?_
      refine ops H' ?_
      obtain rfl:=zso gh1'
      refine qU ?_
      exact ⟨rfl,shd [1,2,5,7,16,17,18,33] [(3,3),(4,4),(5,5)] 6 rfl⟩
     ·replace gh1':=(ifT hc').symm.trans gh1'
      refine ops H' ?_
      obtain rfl:=zso gh1'
      refine qU ?_
      exact ⟨rfl,shd [1,2,5,7,16,17,18,33] [(3,3),(4,4),(5,5)] 6 rfl⟩
    ·rintro e' rfl
     simp only [List.drop_succ_cons,List.drop_zero]
     refine ops H' ?_
     obtain ⟨b_2,gh1',h1'⟩:=zbi h1'
     refine quV_cut 9 (fun e'=>e'=⟨97,3,6,[(1,.pl (.one (.v (.list false 1 (List.map (rK .u64) closed))))),(2,.pl (.one (.ref 3 []))),(5,.pl (.one (.ref 4 []))),(7,.pl (.one (.ref 5 []))),(16,.pl (.one (.v (.list false 4 (List.map (zF false) w.Bodies))))),(17,.pl (.one (.v (.sc (.int .i64 (w.Bodies.length:Int)))))),(18,.pl (.one (.v (.sc (.int .i64 x18))))),(43,.pl (.one (.v (.sc (.bool b_2)))))],[(3,.box true [.list false 1 (List.map (rL false 1 (rK .i64)) w.Parents),.list false 4 (List.map (zF false) w.Bodies)]),(4,.list true 1 (List.map (rK .i64) born_1)),(5,.box true [.sc (.string x_2.Line),.sc (.int .i64 x_2.Ins),.sc (.int .i64 x_2.Ord),.list false 1 (List.map (rK .i64) x_2.Dels)])]⟩) ?_ ?_
     ·simp only [List.take_succ_cons,List.take_zero]
      refine quV_sp (fun hc'=>?_) (fun hc'=>?_)
      ·replace gh1':=(ifF hc').symm.trans gh1'
       obtain ⟨x_3,hv',gh1'⟩:=zbi gh1'
       have H':=And.intro (zP hv') H'
       refine ops H' ?_
       obtain rfl:=zso gh1'
       refine qU ?_
       exact ⟨rfl,shd [1,2,5,7,16,17,18,43] [(3,3),(4,4),(5,5)] 6 rfl⟩
      ·replace gh1':=(ifT hc').symm.trans gh1'
       refine ops H' ?_
       obtain rfl:=zso gh1'
       refine qU ?_
       exact ⟨rfl,shd [1,2,5,7,16,17,18,43] [(3,3),(4,4),(5,5)] 6 rfl⟩
     ·rintro e' rfl
      simp only [List.drop_succ_cons,List.drop_zero]
      refine ops H' ?_
      obtain ⟨b_3,gh1',h1'⟩:=zbi h1'
      refine quV_cut 7 (fun e'=>e'=⟨97,3,6,[(1,.pl (.one (.v (.list false 1 (List.map (rK .u64) closed))))),(2,.pl (.one (.ref 3 []))),(5,.pl (.one (.ref 4 []))),(7,.pl (.one (.ref 5 []))),(16,.pl (.one (.v (.list false 4 (List.map (zF false) w.Bodies))))),(17,.pl (.one (.v (.sc (.int .i64 (w.Bodies.length:Int)))))),(18,.pl (.one (.v (.sc (.int .i64 x18))))),(51,.pl (.one (.v (.sc (.bool b_3)))))],[(3,.box true [.list false 1 (List.map (rL false 1 (rK .i64)) w.Parents),.list false 4 (List.map (zF false) w.Bodies)]),(4,.list true 1 (List.map (rK .i64) born_1)),(5,.box true [.sc (.string x_2.Line),.sc (.int .i64 x_2.Ins),.sc (.int .i64 x_2.Ord),.list false 1 (List.map (rK .i64) x_2.Dels)])]⟩) ?_ ?_
      ·simp only [List.take_succ_cons,List.take_zero]
       refine quV_sp (fun hc'=>?_) (fun hc'=>?_)
       ·replace gh1':=(ifF hc').symm.trans gh1'
        refine ops H' ?_
        obtain ⟨x49,hy',gh1'⟩:=zbi gh1'
        refine callGQ H' (W_impl_ascends _ _ _ hy') ?_
        refine ops H' ?_
        obtain rfl:=zso gh1'
        refine qU ?_
        exact ⟨rfl,shd [1,2,5,7,16,17,18,51] [(3,3),(4,4),(5,5)] 6 rfl⟩
       ·replace gh1':=(ifT hc').symm.trans gh1'
        refine ops H' ?_
        obtain rfl:=zso gh1'
        refine qU ?_
        exact ⟨rfl,shd [1,2,5,7,16,17,18,51] [(3,3),(4,4),(5,5)] 6 rfl⟩
      ·rintro e' rfl
       simp only [List.drop_succ_cons,List.drop_zero]
       refine quN ?_
       refine zH (fun hc'=>?_) (fun hc'=>?_)
       ·replace h1':=(ifT hc').symm.trans h1'
        refine zB ?_
        refine zA ?_
        refine ops H' ?_
        refine zE ?_
        refine zN ?_
        obtain rfl:=zso h1'
        refine ⟨_,rfl,fun hr'=>?_⟩
        subst hr'
        obtain rfl:=zso h0'
        exact zO H' rfl rfl
       ·replace h1':=(ifF hc').symm.trans h1'
        refine zM ?_
        refine zB ?_
        refine zA ?_
        obtain ⟨x_4,hv',h1'⟩:=zbi h1'
        have H':=And.intro (zP hv') H'
        refine ops H' ?_
        refine zE ?_
        refine zB ?_
        refine zA ?_
        refine ops H' ?_
        refine zE ?_
        obtain ⟨p_2,hl',h1'⟩:=zbi h1'
        refine zI ?_
        refine zS (fun x62 e'=>e'=⟨97,3,6,[(1,.pl (.one (.v (.list false 1 (List.map (rK .u64) closed))))),(2,.pl (.one (.ref 3 []))),(5,.pl (.one (.ref 4 []))),(7,.pl (.one (.ref 5 []))),(16,.pl (.one (.v (.list false 4 (List.map (zF false) w.Bodies))))),(17,.pl (.one (.v (.sc (.int .i64 (w.Bodies.length:Int)))))),(18,.pl (.one (.v (.sc (.int .i64 x18))))),(60,.pl (.one (.v (.list false 1 (List.map (rK .i64) x_2.Dels))))),(61,.pl (.one (.v (.sc (.int .i64 (x_2.Dels.length:Int)))))),(62,.pl (.one (.v (.sc (.int .i64 x62)))))],[(3,.box true [.list false 1 (List.map (rL false 1 (rK .i64)) w.Parents),.list false 4 (List.map (zF false) w.Bodies)]),(4,.list true 1 (List.map (rK .i64) (born_1.set x_2.Ins.toNat (wk .i64 (x_4+1))))),(5,.box true [.sc (.string x_2.Line),.sc (.int .i64 x_2.Ins),.sc (.int .i64 x_2.Ord),.list false 1 (List.map (rK .i64) x_2.Dels)])]⟩) hl' (shd [1,2,5,7,16,17,18,60,61,62] [(3,3),(4,4),(5,5)] 6 rfl) ?_
        rintro x62 y2' e' h2' rfl
        replace h2':impl_bodiesOk_l3 w closed x_2 x62=some y2':=h2'
        unfold impl_bodiesOk_l3 at h2'
        refine zB ?_
        refine zA ?_
        refine ops H' ?_
        refine zE ?_
        refine zB ?_
        refine zH (fun hc'=>?_) (fun hc'=>?_)
        ·replace h2':=(ifT hc').symm.trans h2'
         refine zM ?_
         refine zB ?_
         refine zI ?_
         refine zB ?_
         refine zA ?_
         obtain ⟨x_5,hv',h2'⟩:=zbi h2'
         have H':=And.intro (zP hv') H'
         refine ops H' ?_
         refine zE ?_
         refine zB ?_
         refine regQ ?_
         obtain ⟨x_6,hv',h2'⟩:=zbi h2'
         have H':=And.intro (zP hv') H'
         refine ops H' ?_
         obtain ⟨x73,hy',h2'⟩:=zbi h2'
         refine callGQ H' (W_impl_unionOf _ _ _ hy') ?_
         obtain ⟨x74,hy',h2'⟩:=zbi h2'
         refine callGQ H' (W_impl_Body_isLive _ _ _ hy') ?_
         refine ops H' ?_
         refine quN ?_
         refine zH (fun hc'=>?_) (fun hc'=>?_)
         ·replace h2':=(ifT hc').symm.trans h2'
          refine zB ?_
          refine zA ?_
          refine ops H' ?_
          refine zE ?_
          refine zN ?_
          obtain rfl:=zso h2'
          refine ⟨_,rfl,fun hr'=>?_⟩
          subst hr'
          obtain rfl:=zso h1'
          refine ⟨_,rfl,fun hr'=>?_⟩
          subst hr'
          obtain rfl:=zso h0'
          exact zO H' rfl rfl
         ·replace h2':=(ifF hc').symm.trans h2'
          refine zM ?_
          refine zA ?_
          refine ops H' ?_
          refine zE ?_
          obtain rfl:=zso h2'
          exact shd [1,2,5,7,16,17,18,60,61,62] [(3,3),(4,4),(5,5)] 6 ⟨_,rfl,rfl⟩
        ·replace h2':=(ifF hc').symm.trans h2'
         refine qJ ?_
         obtain rfl:=zso h2'
         refine ⟨_,rfl,fun hr'=>?_⟩
         subst hr'
         exact shd [1,2,5,16,17,18] [(3,3),(4,4)] 5 ⟨_,h1',rfl⟩
   ·rintro e' ⟨born_2,h1',rfl⟩
    unfold impl_bodiesOk_j3 at h1'
    refine zA ?_
    refine ops H' ?_
    refine zE ?_
    obtain rfl:=zso h1'
    exact shd [1,2,5,16,17,18] [(3,3),(4,4)] 5 ⟨_,rfl,_,_,rfl,rfl⟩
  ·replace h1':=(ifF hc').symm.trans h1'
   refine qJ ?_
   obtain rfl:=zso h1'
   refine ⟨_,rfl,fun hr'=>?_⟩
   subst hr'
   exact shd [1,2,5] [(3,3),(4,4)] 5 ⟨_,h0',rfl⟩
 ·rintro e' ⟨born,h0',rfl⟩
  unfold impl_bodiesOk_j1 at h0'
  refine zV (fun e'=>impl_bodiesOk_j2=some r'∧e'=⟨97,3,3,[],[]⟩) ?_ ?_
  ·refine zB ?_
   refine zA ?_
   refine ops H' ?_
   refine zE ?_
   obtain ⟨p,hl',h0'⟩:=zbi h0'
   refine zI ?_
   refine zS (fun x80 e'=>e'=⟨97,3,5,[(2,.pl (.one (.ref 3 []))),(5,.pl (.one (.ref 4 []))),(78,.pl (.one (.v (.list false 1 (List.map (rK .u64) closed))))),(79,.pl (.one (.v (.sc (.int .i64 (closed.length:Int)))))),(80,.pl (.one (.v (.sc (.int .i64 x80)))))],[(3,.box true [.list false 1 (List.map (rL false 1 (rK .i64)) w.Parents),.list false 4 (List.map (zF false) w.Bodies)]),(4,.list true 1 (List.map (rK .i64) born))]⟩) hl' (shd [2,5,78,79,80] [(3,3),(4,4)] 5 rfl) ?_
   rintro x80 y1' e' h1' rfl
   replace h1':impl_bodiesOk_l1 w closed born x80=some y1':=h1'
   unfold impl_bodiesOk_l1 at h1'
   refine zB ?_
   refine zA ?_
   refine ops H' ?_
   refine zE ?_
   refine zB ?_
   refine zH (fun hc'=>?_) (fun hc'=>?_)
   ·replace h1':=(ifT hc').symm.trans h1'
    refine zM ?_
    refine zB ?_
    refine zI ?_
    refine zB ?_
    refine zA ?_
    obtain ⟨x,hv',h1'⟩:=zbi h1'
    have H':=And.intro (zP hv') H'
    refine ops H' ?_
    refine zE ?_
    refine zB ?_
    refine zA ?_
    obtain ⟨x_1,hv',h1'⟩:=zbi h1'
    have H':=And.intro (zP hv') H'
    refine ops H' ?_
    obtain ⟨b,gh1',h1'⟩:=zbi h1'
    refine qC 5 (fun e'=>e'=⟨97,3,5,[(2,.pl (.one (.ref 3 []))),(5,.pl (.one (.ref 4 []))),(78,.pl (.one (.v (.list false 1 (List.map (rK .u64) closed))))),(79,.pl (.one (.v (.sc (.int .i64 (closed.length:Int)))))),(80,.pl (.one (.v (.sc (.int .i64 x80))))),(95,.pl (.one (.v (.sc (.bool b)))))],[(3,.box true [.list false 1 (List.map (rL false 1 (rK .i64)) w.Parents),.list false 4 (List.map (zF false) w.Bodies)]),(4,.list true 1 (List.map (rK .i64) born))]⟩) ?_ ?_
    ·simp only [List.take_succ_cons,List.take_zero]
     refine qE (fun hc'=>?_) (fun hc'=>?_)
     ·replace gh1':=(ifF hc').symm.trans gh1'
      refine ops H' ?_
      obtain ⟨x92,hy',gh1'⟩:=zbi gh1'
      refine zR H' (fun _=>[]) (W_impl_Weave_liveIn _ _ _ hy') ?_
      refine ops H' ?_
      obtain rfl:=zso gh1'
      refine zG ?_
      exact ⟨rfl,shd [2,5,78,79,80,95] [(3,3),(4,4)] 5 rfl⟩
     ·replace gh1':=(ifT hc').symm.trans gh1'
      refine ops H' ?_
      obtain rfl:=zso gh1'
      refine zG ?_
      exact ⟨rfl,shd [2,5,78,79,80,95] [(3,3),(4,4)] 5 rfl⟩
    ·rintro e' rfl
     simp only [List.drop_succ_cons,List.drop_zero]
     refine zE ?_
     refine zH (fun hc'=>?_) (fun hc'=>?_)
     ·replace h1':=(ifT hc').symm.trans h1'
      refine zB ?_
      refine zA ?_
      refine ops H' ?_
      refine zE ?_
      refine zN ?_
      obtain rfl:=zso h1'
      refine ⟨_,rfl,fun hr'=>?_⟩
      subst hr'
      obtain rfl:=zso h0'
      exact zO H' rfl rfl
     ·replace h1':=(ifF hc').symm.trans h1'
      refine zM ?_
      refine zA ?_
      refine ops H' ?_
      refine zE ?_
      obtain rfl:=zso h1'
      exact shd [2,5,78,79,80] [(3,3),(4,4)] 5 ⟨_,rfl,rfl⟩
   ·replace h1':=(ifF hc').symm.trans h1'
    refine qJ ?_
    obtain rfl:=zso h1'
    refine ⟨_,rfl,fun hr'=>?_⟩
    subst hr'
    exact shd [] [] 3 ⟨h0',rfl⟩
  ·rintro e' ⟨h0',rfl⟩
   unfold impl_bodiesOk_j2 at h0'
   refine zB ?_
   refine zA ?_
   refine ops H' ?_
   refine zE ?_
   refine zN ?_
   obtain rfl:=zso h0'
   exact zO H' rfl rfl
end Go.TV.KFnExactFileLog
