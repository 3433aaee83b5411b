/- Walks. -/
import Derived.Test.YtmoglghkjfjalaaGreatKFnStatsE
import Derived.Test.YtmoglghkjfjalaaGreatKFnStatsW0
set_option linter.unusedVariables false
set_option linter.unusedSimpArgs false
set_option maxHeartbeats 8000000
set_option maxRecDepth 100000
namespace Go.TV.KFnStats
attribute [local irreducible] wpV opsV Does thenV blockV RetL quV seqV Cy lpP cutP cutQ
open Go.Proofs.Tryz Go.TV.F
instance W_spec_l15Names:∀ p changes,Wlk X (spec_l15Names p changes) 212 [0] [.one (.box true [.list true 3 (List.map (zD true) p.names),.list true 1 (List.map (rK .i64) p.lines),.sc (.int .i64 p.files)]),.one (.list false 4 (List.map (zE false) changes))] (fun r'=>[.one (.sc (.bool r'.1))]) (fun r'=>[(0,.box true [.list true 3 (List.map (zD true) r'.2.names),.list true 1 (List.map (rK .i64) r'.2.lines),.sc (.int .i64 r'.2.files)])]):=fun p changes=>by
 refine ws f212 184 [.tmp 4] (h2 t3 (h2 t4 (h2 t9 (h2 t40 (h2 t41 (h2 t45 (h2 t144 (h2 t149 (h2 t260 (h2 R_T_impl_Change (h2 zT (h2 R_i64 R_s)))))))))))) ?_
 intro r'; unfold spec_l15Names
 refine go ?_
 refine sq ?_
 refine go ?_
 refine sp ?_ ?_
 ·exact gz
 ·refine go ?_
  refine jn (fun e'=>spec_l15Names_j1 p changes=some r'∧e'=⟨184,2,2,[(0,.pl (.one (.ref 0 []))),(1,.pl (.one (.v (.list false 4 (List.map (zE false) changes)))))],[(0,.box true [.list true 3 (List.map (zD true) p.names),.list true 1 (List.map (rK .i64) p.lines),.sc (.int .i64 p.files)])]⟩) ?_ ?_
  ·refine go ?_
   refine lp (fun i_1 e'=>e'=⟨184,2,2,[(0,.pl (.one (.ref 0 []))),(1,.pl (.one (.v (.list false 4 (List.map (zE false) changes))))),(5,.pl (.one (.v (.sc (.int .i64 i_1)))))],[(0,.box true [.list true 3 (List.map (zD true) p.names),.list true 1 (List.map (rK .i64) p.lines),.sc (.int .i64 p.files)])]⟩) [0,1,5] [(0,0)] 2 rfl ?_
   rintro i_1 _ rfl y1'
   change Tl _ (spec_l15Names_l2 p changes i_1) _ _; unfold spec_l15Names_l2
   refine sq ?_
   refine go ?_
   refine sp ?_ ?_
   ·refine go ?_
    refine sq ?_
    refine go ?_; intro x_4 v'
    refine go ?_; intro x24
    refine go ?_
    refine sp ?_ ?_
    ·exact gz
    ·refine go ?_
     exact bk [0,1,5] [(0,0)] 2 rfl
   ·refine go ?_
    exact je [0,1] [(0,0)] 2 fun h=>⟨h,rfl⟩
  ·rintro e' ⟨h,rfl⟩; refine tl h ?_; unfold spec_l15Names_j1
   refine jn (fun e'=>∃ p_1 p_2 p_3,spec_l15Names_j2 p_1 p_2 p_3=some r'∧e'=⟨184,2,2,[],[(0,.box true [.list true 3 (List.map (zD true) p_1),.list true 1 (List.map (rK .i64) p_2),.sc (.int .i64 p_3)])]⟩) ?_ ?_
   ·refine go ?_
    refine lp (fun s' e'=>∃ i p_4 p_5 p_6,s'=(i,p_4,p_5,p_6)∧e'=⟨184,2,2,[(0,.pl (.one (.ref 0 []))),(1,.pl (.one (.v (.list false 4 (List.map (zE false) changes))))),(6,.pl (.one (.v (.sc (.int .i64 i)))))],[(0,.box true [.list true 3 (List.map (zD true) p_4),.list true 1 (List.map (rK .i64) p_5),.sc (.int .i64 p_6)])]⟩) [0,1,6] [(0,0)] 2 ⟨_,_,_,_,rfl,rfl⟩ ?_
    rintro s' _ ⟨i,p_4,p_5,p_6,rfl,rfl⟩ y1'
    change Tl _ (spec_l15Names_l1 changes i p_4 p_5 p_6) _ _; unfold spec_l15Names_l1
    refine sq ?_
    refine go ?_
    refine sp ?_ ?_
    ·refine go ?_
     refine sq ?_
     refine go ?_; intro x v'
     refine go ?_
     refine l1 ?_
     refine go ?_
     refine rq ?_
     refine go ?_; intro x42
     refine go ?_
     refine sq ?_
     refine go ?_; intro x45
     refine go ?_
     refine gc 10 (fun b e'=>e'=⟨184,2,3,[(0,.pl (.one (.ref 0 []))),(1,.pl (.one (.v (.list false 4 (List.map (zE false) changes))))),(6,.pl (.one (.v (.sc (.int .i64 i))))),(7,.pl (.one (.ref 2 []))),(8,.pl (.one (.v (.sc (.int .i64 x42))))),(57,.pl (.one (.v (.sc (.bool b)))))],[(0,.box true [.list true 3 (List.map (zD true) p_4),.list true 1 (List.map (rK .i64) p_5),.sc (.int .i64 p_6)]),(2,.box true [.sc (.int .i64 x.Kind),.sc (.string x.Path),.sc (.string x.To),.list false 1 (List.map rS x.Lines)])]⟩) ?_ ?_
     ·intro p
      refine zY ?_ ?_
      ·refine go ?_
       exact ge [0,1,6,7,8,57] [(0,0),(2,2)] 3 rfl
      ·refine go ?_
       refine gc 5 (fun b_1 e'=>e'=⟨184,2,3,[(0,.pl (.one (.ref 0 []))),(1,.pl (.one (.v (.list false 4 (List.map (zE false) changes))))),(6,.pl (.one (.v (.sc (.int .i64 i))))),(7,.pl (.one (.ref 2 []))),(8,.pl (.one (.v (.sc (.int .i64 x42))))),(47,.pl (.one (.v (.sc (.bool false))))),(48,.pl (.one (.addr 2 [] 0 0 0))),(49,.pl (.one (.v (.sc (.int .i64 x.Kind))))),(50,.pl (.one (.v (.sc (.bool (x.Kind == 4)))))),(56,.pl (.one (.v (.sc (.bool b_1)))))],[(0,.box true [.list true 3 (List.map (zD true) p_4),.list true 1 (List.map (rK .i64) p_5),.sc (.int .i64 p_6)]),(2,.box true [.sc (.int .i64 x.Kind),.sc (.string x.Path),.sc (.string x.To),.list false 1 (List.map rS x.Lines)])]⟩) ?_ ?_
       ·intro p
        refine qT ?_ ?_
        ·refine go ?_; intro x54
         refine go ?_
         exact ge [0,1,6,7,8,47,48,49,50,56] [(0,0),(2,2)] 3 rfl
        ·refine go ?_
         exact ge [0,1,6,7,8,47,48,49,50,56] [(0,0),(2,2)] 3 rfl
       ·rintro b_1 _ rfl
        refine go ?_
        exact ge [0,1,6,7,8,57] [(0,0),(2,2)] 3 rfl
     ·rintro b _ rfl
      refine go ?_
      refine gc 7 (fun b_2 e'=>e'=⟨184,2,3,[(0,.pl (.one (.ref 0 []))),(1,.pl (.one (.v (.list false 4 (List.map (zE false) changes))))),(6,.pl (.one (.v (.sc (.int .i64 i))))),(7,.pl (.one (.ref 2 []))),(8,.pl (.one (.v (.sc (.int .i64 x42))))),(65,.pl (.one (.v (.sc (.bool b_2)))))],[(0,.box true [.list true 3 (List.map (zD true) p_4),.list true 1 (List.map (rK .i64) p_5),.sc (.int .i64 p_6)]),(2,.box true [.sc (.int .i64 x.Kind),.sc (.string x.Path),.sc (.string x.To),.list false 1 (List.map rS x.Lines)])]⟩) ?_ ?_
      ·intro p
       refine zY ?_ ?_
       ·refine go ?_
        exact ge [0,1,6,7,8,65] [(0,0),(2,2)] 3 rfl
       ·refine go ?_
        exact ge [0,1,6,7,8,65] [(0,0),(2,2)] 3 rfl
      ·rintro b_2 _ rfl
       refine go ?_
       refine sp ?_ ?_
       ·exact gz
       ·refine go ?_
        refine sp ?_ ?_
        ·refine go ?_
         refine rc [0,1,2,3,5,7,8,9,4,6,10,11,12,13,14,15] ?_
         refine go ?_; intro x82
         refine go ?_; intro l v'
         refine go ?_
         exact bk [0,1,6] [(0,0)] 2 ⟨_,_,_,_,rfl,rfl⟩
        ·refine go ?_
         refine sp ?_ ?_
         ·refine sq ?_
          refine go ?_
          refine rq ?_
          refine go ?_; intro x_1 v'
          refine go ?_; intro x_2 v'
          refine go ?_
          refine sp ?_ ?_
          ·exact gz
          ·refine go ?_
           refine rc [0,1,2,3,4,5,6,7,8,9,10,11,12,13,14] ?_
           refine go ?_
           exact bk [0,1,6] [(0,0)] 2 ⟨_,_,_,_,rfl,rfl⟩
         ·refine go ?_
          refine sp ?_ ?_
          ·refine rc [0,2,3,4,6,9,10,11,13,14,1,5,7,8,12,15,16,17,18,19] ?_
           refine go ?_; intro x143 v'
           refine go ?_; intro l_1 v'
           refine fk (appz_f (zD true) v') ?_
           refine go ?_; intro x151 v'
           refine go ?_; intro l_2 v'
           refine go ?_
           exact bk [0,1,6] [(0,0)] 2 ⟨_,_,_,_,rfl,rfl⟩
          ·refine go ?_
           refine sp ?_ ?_
           ·refine sq ?_
            refine go ?_
            refine rq ?_
            refine go ?_; intro x163
            refine go ?_
            refine sp ?_ ?_
            ·exact gz
            ·refine go ?_; intro x_3 v'
             refine go ?_
             refine l1 ?_
             refine go ?_
             refine rc [0,1,2,3,4,5,6,7,8,9] ?_
             refine go ?_; intro x181
             refine go ?_
             exact bk [0,1,6] [(0,0)] 2 ⟨_,_,_,_,rfl,rfl⟩
           ·refine go ?_
            exact bk [0,1,6] [(0,0)] 2 ⟨_,_,_,_,rfl,rfl⟩
    ·refine go ?_
     exact je [] [(0,0)] 2 fun h=>⟨_,_,_,h,rfl⟩
   ·rintro e' ⟨p_1,p_2,p_3,h,rfl⟩; refine tl h ?_; unfold spec_l15Names_j2
    exact gz
instance W_spec_LineOk:∀ line,Wlk X (spec_LineOk line) 145 [] [.one (.sc (.string line))] (fun r'=>[.one (.sc (.bool r'))]) (fun r'=>[]):=fun line=>by
 refine ws f145 17 [.tmp 2] (h2 t3 (h2 t5 t9)) ?_
 intro r'; unfold spec_LineOk
 refine go ?_
 refine jn (fun e'=>spec_LineOk_j1 line=some r'∧e'=⟨17,1,1,[(0,.pl (.one (.v (.sc (.string line)))))],[]⟩) ?_ ?_
 ·refine go ?_
  refine lp (fun i e'=>e'=⟨17,1,1,[(0,.pl (.one (.v (.sc (.string line))))),(3,.pl (.one (.v (.sc (.int .i64 i)))))],[]⟩) [0,3] [] 1 rfl ?_
  rintro i _ rfl y1'
  change Tl _ (spec_LineOk_l1 line i) _ _; unfold spec_LineOk_l1
  refine sq ?_
  refine go ?_
  refine sp ?_ ?_
  ·refine go ?_
   refine sq ?_
   refine go ?_; intro x12 v'
   refine go ?_
   refine sp ?_ ?_
   ·exact gz
   ·refine go ?_
    exact bk [0,3] [] 1 rfl
  ·refine go ?_
   exact je [0] [] 1 fun h=>⟨h,rfl⟩
 ·rintro e' ⟨h,rfl⟩; refine tl h ?_; unfold spec_LineOk_j1
  exact gz
instance W_spec_l03All:∀ list_ most,Wlk X (spec_l03All list_ most) 200 [] [.one (.list false 1 (List.map rS list_)),.one (.sc (.int .i64 most))] (fun r'=>[.one (.sc (.bool r'))]) (fun r'=>[]):=fun list_ most=>by
 refine ws f200 22 [.tmp 4] (h2 t3 (h2 t9 (h2 t37 R_s))) ?_
 intro r'; unfold spec_l03All
 refine go ?_
 refine sq ?_
 refine go ?_
 refine sp ?_ ?_
 ·exact gz
 ·refine go ?_
  refine jn (fun e'=>spec_l03All_j1=some r'∧e'=⟨22,2,2,[],[]⟩) ?_ ?_
  ·refine go ?_
   refine lp (fun i e'=>e'=⟨22,2,2,[(0,.pl (.one (.v (.list false 1 (List.map rS list_))))),(5,.pl (.one (.v (.sc (.int .i64 i)))))],[]⟩) [0,5] [] 2 rfl ?_
   rintro i _ rfl y1'
   change Tl _ (spec_l03All_l1 list_ i) _ _; unfold spec_l03All_l1
   refine sq ?_
   refine go ?_
   refine sp ?_ ?_
   ·refine go ?_
    refine sq ?_
    refine go ?_; intro x v'
    refine go ?_; intro x20
    refine go ?_
    refine sp ?_ ?_
    ·exact gz
    ·refine go ?_
     exact bk [0,5] [] 2 rfl
   ·refine go ?_
    exact je [] [] 2 fun h=>⟨h,rfl⟩
  ·rintro e' ⟨h,rfl⟩; refine tl h ?_; unfold spec_l03All_j1
   exact gz
instance W_spec_LinesOk:∀ list_,Wlk X (spec_LinesOk list_) 126 [] [.one (.list false 1 (List.map rS list_))] (fun r'=>[.one (.sc (.bool r'))]) (fun r'=>[]):=fun list_=>by
 refine ws f126 5 [.tmp 2] R_s ?_
 intro r'; unfold spec_LinesOk
 refine go ?_; intro x4
 exact gz
instance W_spec_l15CopyWeave:∀ w,Wlk X (spec_l15CopyWeave w) 249 [] [.agg [.list false 1 (List.map (rL false 1 (rK .i64)) w.Parents),.list false 4 (List.map (zC false) w.Bodies)]] (fun r'=>[.agg [.list true 1 (List.map (rL true 1 (rK .i64)) r'.Parents),.list true 4 (List.map (zC true) r'.Bodies)]]) (fun r'=>[]):=fun w=>by
 refine ws f249 51 [.cell 2 36] (h2 t3 (h2 t33 (h2 t34 (h2 t36 (h2 t40 (h2 t73 (h2 qX (h2 zS R_i64)))))))) ?_
 intro r'; unfold spec_l15CopyWeave
 refine go ?_
 refine l1 ?_
 refine go ?_
 refine l1 ?_
 refine go ?_
 refine jn (fun e'=>∃ out_,spec_l15CopyWeave_j1 w out_=some r'∧e'=⟨51,2,5,[(1,.pl (.one (.ref 2 []))),(2,.pl (.one (.ref 3 []))),(3,.pl (.one (.ref 4 [])))],[(2,.box true [.list false 1 (List.map (rL false 1 (rK .i64)) w.Parents),.list false 4 (List.map (zC false) w.Bodies)]),(3,.box true [.list true 1 (List.map (rL true 1 (rK .i64)) []),.list true 4 (List.map (zC true) [])]),(4,.box true [.list true 1 (List.map (rL true 1 (rK .i64)) out_),.list true 4 (List.map (zC true) [])])]⟩) ?_ ?_
 ·refine go ?_
  refine lp (fun s' e'=>∃ v out__3,s'=(v,out__3)∧e'=⟨51,2,5,[(1,.pl (.one (.ref 2 []))),(2,.pl (.one (.ref 3 []))),(3,.pl (.one (.ref 4 []))),(4,.pl (.one (.v (.sc (.int .i64 v)))))],[(2,.box true [.list false 1 (List.map (rL false 1 (rK .i64)) w.Parents),.list false 4 (List.map (zC false) w.Bodies)]),(3,.box true [.list true 1 (List.map (rL true 1 (rK .i64)) []),.list true 4 (List.map (zC true) [])]),(4,.box true [.list true 1 (List.map (rL true 1 (rK .i64)) out__3),.list true 4 (List.map (zC true) [])])]⟩) [1,2,3,4] [(2,2),(3,3),(4,4)] 5 ⟨_,_,rfl,rfl⟩ ?_
  rintro s' _ ⟨v,out__3,rfl,rfl⟩ y1'
  change Tl _ (spec_l15CopyWeave_l2 w v out__3) _ _; unfold spec_l15CopyWeave_l2
  refine sq ?_
  refine go ?_
  refine sp ?_ ?_
  ·refine go ?_
   refine sq ?_
   refine go ?_
   refine rc [0,3,5,1,2,4,6,7,8,9,10,11,12] ?_
   refine go ?_; intro x_1 v'
   refine go ?_; intro l_2 v'
   refine fk (appz_f (rK .i64) v') ?_
   refine go ?_; intro l_3 v'
   refine go ?_
   exact bk [1,2,3,4] [(2,2),(3,3),(4,4)] 5 ⟨_,_,rfl,rfl⟩
  ·refine go ?_
   exact je [1,2,3] [(2,2),(3,3),(4,4)] 5 fun h=>⟨_,h,rfl⟩
 ·rintro e' ⟨out_,h,rfl⟩; refine tl h ?_; unfold spec_l15CopyWeave_j1
  refine jn (fun e'=>∃ out__1,spec_l15CopyWeave_j2 out_ out__1=some r'∧e'=⟨51,2,4,[(2,.pl (.one (.ref 2 []))),(3,.pl (.one (.ref 3 [])))],[(2,.box true [.list true 1 (List.map (rL true 1 (rK .i64)) []),.list true 4 (List.map (zC true) [])]),(3,.box true [.list true 1 (List.map (rL true 1 (rK .i64)) out_),.list true 4 (List.map (zC true) out__1)])]⟩) ?_ ?_
  ·refine go ?_
   refine lp (fun s' e'=>∃ i out__2,s'=(i,out__2)∧e'=⟨51,2,5,[(1,.pl (.one (.ref 2 []))),(2,.pl (.one (.ref 3 []))),(3,.pl (.one (.ref 4 []))),(5,.pl (.one (.v (.sc (.int .i64 i)))))],[(2,.box true [.list false 1 (List.map (rL false 1 (rK .i64)) w.Parents),.list false 4 (List.map (zC false) w.Bodies)]),(3,.box true [.list true 1 (List.map (rL true 1 (rK .i64)) []),.list true 4 (List.map (zC true) [])]),(4,.box true [.list true 1 (List.map (rL true 1 (rK .i64)) out_),.list true 4 (List.map (zC true) out__2)])]⟩) [1,2,3,5] [(2,2),(3,3),(4,4)] 5 ⟨_,_,rfl,rfl⟩ ?_
   rintro s' _ ⟨i,out__2,rfl,rfl⟩ y1'
   change Tl _ (spec_l15CopyWeave_l1 w i out__2) _ _; unfold spec_l15CopyWeave_l1
   refine sq ?_
   refine go ?_
   refine sp ?_ ?_
   ·refine go ?_
    refine sq ?_
    refine go ?_; intro x v'
    refine go ?_
    refine l1 ?_
    refine go ?_; intro l v'
    refine fk (appz_f (rK .i64) v') ?_
    refine go ?_; intro l_1 v'
    refine go ?_
    exact bk [1,2,3,5] [(2,2),(3,3),(4,4)] 5 ⟨_,_,rfl,rfl⟩
   ·refine go ?_
    exact je [2,3] [(3,2),(4,3)] 4 fun h=>⟨_,h,rfl⟩
  ·rintro e' ⟨out__1,h,rfl⟩; refine tl h ?_; unfold spec_l15CopyWeave_j2
   exact gz
instance W_spec_l15Copy:∀ s,Wlk X (spec_l15Copy s) 213 [] [.agg [.list false 3 (List.map (zA false) s.Commits),.list false 2 (List.map (zB false) s.Files)]] (fun r'=>[.agg [.list true 3 (List.map (zA true) r'.Commits),.list true 2 (List.map (zB true) r'.Files)]]) (fun r'=>[]):=fun s=>by
 refine ws f213 55 [.cell 2 27] (h2 t3 (h2 t24 (h2 t25 (h2 t27 (h2 t36 (h2 t40 (h2 t41 (h2 t43 (h2 t45 (h2 qX (h2 zS (h2 qK (h2 zT (h2 jJ R_i64)))))))))))))) ?_
 intro r'; unfold spec_l15Copy
 refine go ?_
 refine l1 ?_
 refine go ?_
 refine l1 ?_
 refine go ?_
 refine jn (fun e'=>∃ out_,spec_l15Copy_j1 s out_=some r'∧e'=⟨55,2,5,[(1,.pl (.one (.ref 2 []))),(2,.pl (.one (.ref 3 []))),(3,.pl (.one (.ref 4 [])))],[(2,.box true [.list false 3 (List.map (zA false) s.Commits),.list false 2 (List.map (zB false) s.Files)]),(3,.box true [.list true 3 (List.map (zA true) []),.list true 2 (List.map (zB true) [])]),(4,.box true [.list true 3 (List.map (zA true) out_),.list true 2 (List.map (zB true) [])])]⟩) ?_ ?_
 ·refine go ?_
  refine lp (fun s' e'=>∃ i_1 out__3,s'=(i_1,out__3)∧e'=⟨55,2,5,[(1,.pl (.one (.ref 2 []))),(2,.pl (.one (.ref 3 []))),(3,.pl (.one (.ref 4 []))),(4,.pl (.one (.v (.sc (.int .i64 i_1)))))],[(2,.box true [.list false 3 (List.map (zA false) s.Commits),.list false 2 (List.map (zB false) s.Files)]),(3,.box true [.list true 3 (List.map (zA true) []),.list true 2 (List.map (zB true) [])]),(4,.box true [.list true 3 (List.map (zA true) out__3),.list true 2 (List.map (zB true) [])])]⟩) [1,2,3,4] [(2,2),(3,3),(4,4)] 5 ⟨_,_,rfl,rfl⟩ ?_
  rintro s' _ ⟨i_1,out__3,rfl,rfl⟩ y1'
  change Tl _ (spec_l15Copy_l2 s i_1 out__3) _ _; unfold spec_l15Copy_l2
  refine sq ?_
  refine go ?_
  refine sp ?_ ?_
  ·refine go ?_
   refine sq ?_
   refine go ?_; intro x_1 v'
   refine go ?_
   refine l1 ?_
   refine go ?_; intro l_1 v'
   refine fk (appz_f (rK .i64) v') ?_
   refine go ?_; intro l_2 v'
   refine fk (appz_f (zD true) v') ?_
   refine go ?_; intro l_3 v'
   refine go ?_
   exact bk [1,2,3,4] [(2,2),(3,3),(4,4)] 5 ⟨_,_,rfl,rfl⟩
  ·refine go ?_
   exact je [1,2,3] [(2,2),(3,3),(4,4)] 5 fun h=>⟨_,h,rfl⟩
 ·rintro e' ⟨out_,h,rfl⟩; refine tl h ?_; unfold spec_l15Copy_j1
  refine jn (fun e'=>∃ out__1,spec_l15Copy_j2 out_ out__1=some r'∧e'=⟨55,2,4,[(2,.pl (.one (.ref 2 []))),(3,.pl (.one (.ref 3 [])))],[(2,.box true [.list true 3 (List.map (zA true) []),.list true 2 (List.map (zB true) [])]),(3,.box true [.list true 3 (List.map (zA true) out_),.list true 2 (List.map (zB true) out__1)])]⟩) ?_ ?_
  ·refine go ?_
   refine lp (fun s' e'=>∃ i out__2,s'=(i,out__2)∧e'=⟨55,2,5,[(1,.pl (.one (.ref 2 []))),(2,.pl (.one (.ref 3 []))),(3,.pl (.one (.ref 4 []))),(6,.pl (.one (.v (.sc (.int .i64 i)))))],[(2,.box true [.list false 3 (List.map (zA false) s.Commits),.list false 2 (List.map (zB false) s.Files)]),(3,.box true [.list true 3 (List.map (zA true) []),.list true 2 (List.map (zB true) [])]),(4,.box true [.list true 3 (List.map (zA true) out_),.list true 2 (List.map (zB true) out__2)])]⟩) [1,2,3,6] [(2,2),(3,3),(4,4)] 5 ⟨_,_,rfl,rfl⟩ ?_
   rintro s' _ ⟨i,out__2,rfl,rfl⟩ y1'
   change Tl _ (spec_l15Copy_l1 s i out__2) _ _; unfold spec_l15Copy_l1
   refine sq ?_
   refine go ?_
   refine sp ?_ ?_
   ·refine go ?_
    refine sq ?_
    refine go ?_
    refine rc [0,2,4,1,3,5,6,7,8,9,10,11] ?_
    refine go ?_; intro x v'
    refine go ?_; intro x50
    refine go ?_; intro l v'
    refine go ?_
    exact bk [1,2,3,6] [(2,2),(3,3),(4,4)] 5 ⟨_,_,rfl,rfl⟩
   ·refine go ?_
    exact je [2,3] [(3,2),(4,3)] 4 fun h=>⟨_,h,rfl⟩
  ·rintro e' ⟨out__1,h,rfl⟩; refine tl h ?_; unfold spec_l15Copy_j2
   exact gz
instance W_spec_l06Parents:∀ w parents,Wlk X (spec_l06Parents w parents) 236 [] [.agg [.list false 1 (List.map (rL false 1 (rK .i64)) w.Parents),.list false 4 (List.map (zC false) w.Bodies)],.one (.list false 1 (List.map (rK .i64) parents))] (fun r'=>[.one (.sc (.bool r'))]) (fun r'=>[]):=fun w parents=>by
 refine ws f236 15 [.tmp 4] (h2 t3 (h2 t33 (h2 t36 (h2 t40 (h2 qX (h2 zS R_i64)))))) ?_
 intro r'; unfold spec_l06Parents
 refine go ?_
 refine gc 6 (fun b e'=>e'=⟨15,3,3,[(14,.pl (.one (.v (.sc (.bool b)))))],[]⟩) ?_ ?_
 ·intro p
  refine qT ?_ ?_
  ·refine go ?_; intro x13
   refine go ?_
   exact ge [14] [] 3 rfl
  ·refine go ?_
   exact ge [14] [] 3 rfl
 ·rintro b _ rfl
  exact gz
instance W_spec_l04Ok:∀ a,Wlk X (spec_l04Ok a) 256 [] [.one (.list false 1 (List.map rS a))] (fun r'=>[.one (.sc (.bool r'))]) (fun r'=>[]):=fun a=>by
 refine ws f256 5 [.tmp 2] R_s ?_
 intro r'; unfold spec_l04Ok
 refine go ?_; intro x4
 exact gz
instance W_spec_l04Table:∀ a b,Wlk X (spec_l04Table a b) 257 [] [.one (.list false 1 (List.map rS a)),.one (.list false 1 (List.map rS b))] (fun r'=>[.one (.list true 1 (List.map (rL true 1 (rK .i64)) r'))]) (fun r'=>[]):=fun a b=>by
 refine ws f257 92 [.tmp 4] (h2 t3 (h2 t9 (h2 t33 (h2 t37 (h2 t40 (h2 qX (h2 R_i64 R_s))))))) ?_
 intro r'; unfold spec_l04Table
 refine go ?_
 refine l1 ?_
 refine go ?_; intro x12 v'
 refine fk (mklR_f (rL true 1 (rK .i64)) [.list true 1 []] (by rfl) v') ?_
 refine go ?_
 refine jn (fun e'=>∃ t,spec_l04Table_j1 t=some r'∧e'=⟨92,2,3,[(5,.pl (.one (.ref 2 [])))],[(2,.list true 1 (List.map (rL true 1 (rK .i64)) t))]⟩) ?_ ?_
 ·refine go ?_
  refine lp (fun s' e'=>∃ i t_1,s'=(i,t_1)∧e'=⟨92,2,3,[(0,.pl (.one (.v (.list false 1 (List.map rS a))))),(1,.pl (.one (.v (.list false 1 (List.map rS b))))),(5,.pl (.one (.ref 2 []))),(6,.pl (.one (.v (.sc (.int .i64 i)))))],[(2,.list true 1 (List.map (rL true 1 (rK .i64)) t_1))]⟩) [0,1,5,6] [(3,2)] 3 ⟨_,_,rfl,rfl⟩ ?_
  rintro s' _ ⟨i,t_1,rfl,rfl⟩ y1'
  change Tl _ (jW a b i t_1) _ _; unfold jW
  refine sq ?_
  refine go ?_
  refine sp ?_ ?_
  ·refine go ?_
   refine jn (fun e'=>∃ t_2,spec_l04Table_j2 i t_2=some y1'∧e'=⟨92,2,3,[(0,.pl (.one (.v (.list false 1 (List.map rS a))))),(1,.pl (.one (.v (.list false 1 (List.map rS b))))),(5,.pl (.one (.ref 2 []))),(6,.pl (.one (.v (.sc (.int .i64 i)))))],[(2,.list true 1 (List.map (rL true 1 (rK .i64)) t_2))]⟩) ?_ ?_
   ·refine go ?_; intro x24 v'
    refine go ?_; intro x v'
    refine go ?_
    refine lp (fun s' e'=>∃ j t_3,s'=(j,t_3)∧e'=⟨92,2,3,[(0,.pl (.one (.v (.list false 1 (List.map rS a))))),(1,.pl (.one (.v (.list false 1 (List.map rS b))))),(5,.pl (.one (.ref 2 []))),(6,.pl (.one (.v (.sc (.int .i64 i))))),(7,.pl (.one (.v (.sc (.int .i64 j)))))],[(2,.list true 1 (List.map (rL true 1 (rK .i64)) t_3))]⟩) [0,1,5,6,7] [(2,2)] 3 ⟨_,_,rfl,rfl⟩ ?_
    rintro s' _ ⟨j,t_3,rfl,rfl⟩ y2'
    change Tl _ (jQ a b i j t_3) _ _; unfold jQ
    refine sq ?_
    refine go ?_
    refine gc 5 (fun b_1 e'=>e'=⟨92,2,3,[(0,.pl (.one (.v (.list false 1 (List.map rS a))))),(1,.pl (.one (.v (.list false 1 (List.map rS b))))),(5,.pl (.one (.ref 2 []))),(6,.pl (.one (.v (.sc (.int .i64 i))))),(7,.pl (.one (.v (.sc (.int .i64 j))))),(36,.pl (.one (.v (.sc (.bool b_1)))))],[(2,.list true 1 (List.map (rL true 1 (rK .i64)) t_3))]⟩) ?_ ?_
    ·intro p
     refine qT ?_ ?_
     ·refine go ?_
      exact ge [0,1,5,6,7,36] [(2,2)] 3 rfl
     ·refine go ?_
      exact ge [0,1,5,6,7,36] [(2,2)] 3 rfl
    ·rintro b_1 _ rfl
     refine go ?_
     refine sp ?_ ?_
     ·refine go ?_
      refine sq ?_
      refine go ?_; intro x_1 v'
      refine go ?_; intro x_2 v'
      refine go ?_; intro x_11 v'
      refine go ?_; intro x_12 v'
      refine go ?_
      refine jn (fun e'=>∃ x_3,spec_l04Table_j3 a b i j t_3 x_3=some y2'∧e'=⟨92,2,3,[(0,.pl (.one (.v (.list false 1 (List.map rS a))))),(1,.pl (.one (.v (.list false 1 (List.map rS b))))),(5,.pl (.one (.ref 2 []))),(6,.pl (.one (.v (.sc (.int .i64 i))))),(7,.pl (.one (.v (.sc (.int .i64 j))))),(8,.pl (.one (.v (.sc (.int .i64 x_3)))))],[(2,.list true 1 (List.map (rL true 1 (rK .i64)) t_3))]⟩) ?_ ?_
      ·refine go ?_
       refine sp ?_ ?_
       ·refine go ?_
        exact je [0,1,5,6,7,8] [(2,2)] 3 fun h=>⟨_,h,rfl⟩
       ·refine go ?_
        exact je [0,1,5,6,7,8] [(2,2)] 3 fun h=>⟨_,h,rfl⟩
      ·rintro e' ⟨x_3,h,rfl⟩; refine tl h ?_; unfold spec_l04Table_j3
       refine jn (fun e'=>∃ x_4,spec_l04Table_j4 i j t_3 x_4=some y2'∧e'=⟨92,2,3,[(0,.pl (.one (.v (.list false 1 (List.map rS a))))),(1,.pl (.one (.v (.list false 1 (List.map rS b))))),(5,.pl (.one (.ref 2 []))),(6,.pl (.one (.v (.sc (.int .i64 i))))),(7,.pl (.one (.v (.sc (.int .i64 j))))),(8,.pl (.one (.v (.sc (.int .i64 x_4)))))],[(2,.list true 1 (List.map (rL true 1 (rK .i64)) t_3))]⟩) ?_ ?_
       ·refine go ?_
        refine rq ?_
        refine go ?_; intro x_7 v'
        refine go ?_; intro x_8 v'
        refine go ?_
        refine sp ?_ ?_
        ·refine go ?_; intro x_9 v'
         refine go ?_; intro x_10 v'
         refine go ?_
         exact je [0,1,5,6,7,8] [(2,2)] 3 fun h=>⟨_,h,rfl⟩
        ·refine go ?_
         exact je [0,1,5,6,7,8] [(2,2)] 3 fun h=>⟨_,h,rfl⟩
       ·rintro e' ⟨x_4,h,rfl⟩; refine tl h ?_; unfold spec_l04Table_j4
        refine go ?_; intro x_5 v'
        refine go ?_; intro x_6 v'
        refine go ?_
        exact bk [0,1,5,6,7] [(2,2)] 3 ⟨_,_,rfl,rfl⟩
     ·refine go ?_
      exact je [0,1,5,6] [(2,2)] 3 fun h=>⟨_,h,rfl⟩
   ·rintro e' ⟨t_2,h,rfl⟩; refine tl h ?_; unfold spec_l04Table_j2
    refine go ?_
    exact bk [0,1,5,6] [(2,2)] 3 ⟨_,_,rfl,rfl⟩
  ·refine go ?_
   exact je [5] [(2,2)] 3 fun h=>⟨_,h,rfl⟩
 ·rintro e' ⟨t,h,rfl⟩; refine tl h ?_; unfold spec_l04Table_j1
  exact gz
instance W_spec_Align:∀ a b,Wlk X (spec_Align a b) 237 [] [.one (.list false 1 (List.map rS a)),.one (.list false 1 (List.map rS b))] (fun r'=>[.one (.list true 1 (List.map (rK .i64) r'))]) (fun r'=>[]):=fun a b=>by
 refine ws f237 83 [.tmp 4] (h2 t3 (h2 t9 (h2 t33 (h2 t37 (h2 t40 (h2 qX (h2 R_i64 R_s))))))) ?_
 intro r'; unfold spec_Align
 refine go ?_
 refine l1 ?_
 refine go ?_
 refine sq ?_
 refine go ?_; intro x11
 refine go ?_
 refine gc 4 (fun b_1 e'=>e'=⟨83,2,3,[(0,.pl (.one (.v (.list false 1 (List.map rS a))))),(1,.pl (.one (.v (.list false 1 (List.map rS b))))),(5,.pl (.one (.ref 2 []))),(17,.pl (.one (.v (.sc (.bool b_1)))))],[(2,.list true 1 (List.map (rK .i64) []))]⟩) ?_ ?_
 ·intro p
  refine zY ?_ ?_
  ·refine go ?_
   exact ge [0,1,5,17] [(3,2)] 3 rfl
  ·refine go ?_; intro x15
   refine go ?_
   exact ge [0,1,5,17] [(3,2)] 3 rfl
 ·rintro b_1 _ rfl
  refine go ?_
  refine sp ?_ ?_
  ·exact gz
  ·refine go ?_; intro x21
   refine go ?_
   refine jn (fun e'=>∃ j out_,spec_Align_j1 b j out_=some r'∧e'=⟨83,2,3,[(1,.pl (.one (.v (.list false 1 (List.map rS b))))),(5,.pl (.one (.ref 2 []))),(8,.pl (.one (.v (.sc (.int .i64 j)))))],[(2,.list true 1 (List.map (rK .i64) out_))]⟩) ?_ ?_
   ·refine go ?_
    refine lp (fun s' e'=>∃ i j_2 out__3,s'=(i,j_2,out__3)∧e'=⟨83,2,4,[(0,.pl (.one (.v (.list false 1 (List.map rS a))))),(1,.pl (.one (.v (.list false 1 (List.map rS b))))),(5,.pl (.one (.ref 2 []))),(6,.pl (.one (.ref 3 []))),(7,.pl (.one (.v (.sc (.int .i64 i))))),(8,.pl (.one (.v (.sc (.int .i64 j_2)))))],[(2,.list true 1 (List.map (rK .i64) out__3)),(3,.list true 1 (List.map (rL true 1 (rK .i64)) x21))]⟩) [0,1,5,6,7,8] [(2,2),(3,3)] 4 ⟨_,_,_,rfl,rfl⟩ ?_
    rintro s' _ ⟨i,j_2,out__3,rfl,rfl⟩ y1'
    change Tl _ (spec_Align_l2 a b x21 i j_2 out__3) _ _; unfold spec_Align_l2
    refine sq ?_
    refine go ?_
    refine gc 5 (fun b_2 e'=>e'=⟨83,2,4,[(0,.pl (.one (.v (.list false 1 (List.map rS a))))),(1,.pl (.one (.v (.list false 1 (List.map rS b))))),(5,.pl (.one (.ref 2 []))),(6,.pl (.one (.ref 3 []))),(7,.pl (.one (.v (.sc (.int .i64 i))))),(8,.pl (.one (.v (.sc (.int .i64 j_2))))),(31,.pl (.one (.v (.sc (.bool b_2)))))],[(2,.list true 1 (List.map (rK .i64) out__3)),(3,.list true 1 (List.map (rL true 1 (rK .i64)) x21))]⟩) ?_ ?_
    ·intro p
     refine qT ?_ ?_
     ·refine go ?_
      exact ge [0,1,5,6,7,8,31] [(2,2),(3,3)] 4 rfl
     ·refine go ?_
      exact ge [0,1,5,6,7,8,31] [(2,2),(3,3)] 4 rfl
    ·rintro b_2 _ rfl
     refine go ?_
     refine sp ?_ ?_
     ·refine go ?_
      refine rq ?_
      refine go ?_; intro x v'
      refine go ?_; intro x_1 v'
      refine go ?_
      refine sp ?_ ?_
      ·refine go ?_; intro l_1 v'
       refine go ?_
       exact bk [0,1,5,6,7,8] [(2,2),(3,3)] 4 ⟨_,_,_,rfl,rfl⟩
      ·refine go ?_
       refine rq ?_
       refine go ?_; intro x_2 v'
       refine go ?_; intro x_3 v'
       refine go ?_; intro x_4 v'
       refine go ?_; intro x_5 v'
       refine go ?_
       refine sp ?_ ?_
       ·refine go ?_
        exact bk [0,1,5,6,7,8] [(2,2),(3,3)] 4 ⟨_,_,_,rfl,rfl⟩
       ·refine go ?_; intro l_2 v'
        refine go ?_
        exact bk [0,1,5,6,7,8] [(2,2),(3,3)] 4 ⟨_,_,_,rfl,rfl⟩
     ·refine go ?_
      exact je [1,5,8] [(2,2)] 3 fun h=>⟨_,_,h,rfl⟩
   ·rintro e' ⟨j,out_,h,rfl⟩; refine tl h ?_; unfold spec_Align_j1
    refine jn (fun e'=>∃ out__1,spec_Align_j2 out__1=some r'∧e'=⟨83,2,3,[(5,.pl (.one (.ref 2 [])))],[(2,.list true 1 (List.map (rK .i64) out__1))]⟩) ?_ ?_
    ·refine go ?_
     refine lp (fun s' e'=>∃ j_1 out__2,s'=(j_1,out__2)∧e'=⟨83,2,3,[(1,.pl (.one (.v (.list false 1 (List.map rS b))))),(5,.pl (.one (.ref 2 []))),(8,.pl (.one (.v (.sc (.int .i64 j_1)))))],[(2,.list true 1 (List.map (rK .i64) out__2))]⟩) [1,5,8] [(2,2)] 3 ⟨_,_,rfl,rfl⟩ ?_
     rintro s' _ ⟨j_1,out__2,rfl,rfl⟩ y1'
     change Tl _ (spec_Align_l1 b j_1 out__2) _ _; unfold spec_Align_l1
     refine sq ?_
     refine go ?_
     refine sp ?_ ?_
     ·refine go ?_
      refine sq ?_
      refine go ?_; intro l v'
      refine go ?_
      exact bk [1,5,8] [(2,2)] 3 ⟨_,_,rfl,rfl⟩
     ·refine go ?_
      exact je [5] [(2,2)] 3 fun h=>⟨_,h,rfl⟩
    ·rintro e' ⟨out__1,h,rfl⟩; refine tl h ?_; unfold spec_Align_j2
     exact gz
instance W_spec_l06Add:∀ w parents lines,Wlk X (spec_l06Add w parents lines) 175 [] [.agg [.list false 1 (List.map (rL false 1 (rK .i64)) w.Parents),.list false 4 (List.map (zC false) w.Bodies)],.one (.list false 1 (List.map (rK .i64) parents)),.one (.list false 1 (List.map rS lines))] (fun r'=>[.agg [.list true 1 (List.map (rL true 1 (rK .i64)) r'.1.Parents),.list true 4 (List.map (zC true) r'.1.Bodies)],.one (.sc (.int .i64 r'.2.1)),.one (.sc (.int .i64 r'.2.2))]) (fun r'=>[]):=fun w parents lines=>by
 refine ws f175 197 [.cell 6 36,.tmp 7,.tmp 8] (h2 t3 (h2 t4 (h2 t9 (h2 t33 (h2 t34 (h2 t36 (h2 t37 (h2 t40 (h2 t73 (h2 t202 (h2 t278 (h2 qX (h2 R_Ls (h2 zS (h2 R_b (h2 R_i64 R_s)))))))))))))))) ?_
 intro r'; unfold spec_l06Add
 refine go ?_
 refine l1 ?_
 refine go ?_
 refine sq ?_
 refine go ?_; intro x25
 refine go ?_
 refine sp ?_ ?_
 ·exact gz
 ·refine go ?_
  refine sq ?_
  refine go ?_; intro x29
  refine go ?_
  refine sp ?_ ?_
  ·exact gz
  ·refine go ?_
   refine sq ?_
   refine go ?_
   refine sp ?_ ?_
   ·exact gz
   ·refine go ?_; intro x40
    refine go ?_; intro x43
    refine go ?_; intro x45
    refine go ?_; intro x50 v'
    refine fk (mklR_f (rL true 1 rS) [.list true 1 []] (by rfl) v') ?_
    refine go ?_; intro x54 v'
    refine go ?_
    refine jn (fun e'=>∃ behind stays,spec_l06Add_j1 w parents behind stays=some r'∧e'=⟨197,4,8,[(1,.pl (.one (.v (.list false 1 (List.map (rK .i64) parents))))),(3,.pl (.one (.ref 4 []))),(6,.pl (.one (.ref 5 []))),(9,.pl (.one (.v (.sc (.int .i64 (w.Parents.length:Int)))))),(12,.pl (.one (.ref 6 []))),(13,.pl (.one (.ref 7 [])))],[(4,.box true [.list false 1 (List.map (rL false 1 (rK .i64)) w.Parents),.list false 4 (List.map (zC false) w.Bodies)]),(5,.box true [.list true 1 (List.map (rL true 1 (rK .i64)) []),.list true 4 (List.map (zC true) [])]),(6,.list true 1 (List.map (rL true 1 rS) behind)),(7,.list true 1 (List.map rB stays))]⟩) ?_ ?_
    ·refine go ?_
     refine lp (fun s' e'=>∃ at_ i_1 behind_1 stays_1,s'=(at_,i_1,behind_1,stays_1)∧e'=⟨197,4,10,[(1,.pl (.one (.v (.list false 1 (List.map (rK .i64) parents))))),(2,.pl (.one (.v (.list false 1 (List.map rS lines))))),(3,.pl (.one (.ref 4 []))),(6,.pl (.one (.ref 5 []))),(9,.pl (.one (.v (.sc (.int .i64 (w.Parents.length:Int)))))),(10,.pl (.one (.ref 6 []))),(11,.pl (.one (.ref 7 []))),(12,.pl (.one (.ref 8 []))),(13,.pl (.one (.ref 9 []))),(14,.pl (.one (.v (.sc (.int .i64 at_))))),(15,.pl (.one (.v (.sc (.int .i64 i_1)))))],[(4,.box true [.list false 1 (List.map (rL false 1 (rK .i64)) w.Parents),.list false 4 (List.map (zC false) w.Bodies)]),(5,.box true [.list true 1 (List.map (rL true 1 (rK .i64)) []),.list true 4 (List.map (zC true) [])]),(6,.list true 1 (List.map (rK .i64) x40)),(7,.list true 1 (List.map (rK .i64) x45)),(8,.list true 1 (List.map (rL true 1 rS) behind_1)),(9,.list true 1 (List.map rB stays_1))]⟩) [1,2,3,6,9,10,11,12,13,14,15] [(4,4),(5,5),(8,6),(10,7),(11,8),(12,9)] 10 ⟨_,_,_,_,rfl,rfl⟩ ?_
     rintro s' _ ⟨at_,i_1,behind_1,stays_1,rfl,rfl⟩ y1'
     change Tl _ (spec_l06Add_l4 lines x40 x45 at_ i_1 behind_1 stays_1) _ _; unfold spec_l06Add_l4
     refine sq ?_
     refine go ?_
     refine sp ?_ ?_
     ·refine go ?_
      refine sq ?_
      refine go ?_; intro x_5 v'
      refine go ?_
      refine sp ?_ ?_
      ·refine go ?_; intro x_6 v'
       refine go ?_; intro x_7 v'
       refine go ?_
       exact bk [1,2,3,6,9,10,11,12,13,14,15] [(4,4),(5,5),(6,6),(7,7),(8,8),(9,9)] 10 ⟨_,_,_,_,rfl,rfl⟩
      ·refine rc [0,1,2,3,4,6,7,8,5,9,10,11,12,13] ?_
       refine go ?_; intro x_8 v'
       refine go ?_; intro x_9 v'
       refine go ?_; intro l_8 v'
       refine go ?_
       exact bk [1,2,3,6,9,10,11,12,13,14,15] [(4,4),(5,5),(6,6),(7,7),(8,8),(9,9)] 10 ⟨_,_,_,_,rfl,rfl⟩
     ·refine go ?_
      exact je [1,3,6,9,12,13] [(4,4),(5,5),(8,6),(9,7)] 8 fun h=>⟨_,_,h,rfl⟩
    ·rintro e' ⟨behind,stays,h,rfl⟩; refine tl h ?_; unfold spec_l06Add_j1
     refine go ?_
     refine l1 ?_
     refine go ?_
     refine jn (fun e'=>∃ out_,spec_l06Add_j2 w parents behind stays out_=some r'∧e'=⟨197,4,9,[(1,.pl (.one (.v (.list false 1 (List.map (rK .i64) parents))))),(3,.pl (.one (.ref 4 []))),(6,.pl (.one (.ref 5 []))),(9,.pl (.one (.v (.sc (.int .i64 (w.Parents.length:Int)))))),(12,.pl (.one (.ref 6 []))),(13,.pl (.one (.ref 7 []))),(16,.pl (.one (.ref 8 [])))],[(4,.box true [.list false 1 (List.map (rL false 1 (rK .i64)) w.Parents),.list false 4 (List.map (zC false) w.Bodies)]),(5,.box true [.list true 1 (List.map (rL true 1 (rK .i64)) []),.list true 4 (List.map (zC true) [])]),(6,.list true 1 (List.map (rL true 1 rS) behind)),(7,.list true 1 (List.map rB stays)),(8,.box true [.list true 1 (List.map (rL true 1 (rK .i64)) out_),.list true 4 (List.map (zC true) [])])]⟩) ?_ ?_
     ·refine go ?_
      refine lp (fun s' e'=>∃ k_1 out__6,s'=(k_1,out__6)∧e'=⟨197,4,9,[(1,.pl (.one (.v (.list false 1 (List.map (rK .i64) parents))))),(3,.pl (.one (.ref 4 []))),(6,.pl (.one (.ref 5 []))),(9,.pl (.one (.v (.sc (.int .i64 (w.Parents.length:Int)))))),(12,.pl (.one (.ref 6 []))),(13,.pl (.one (.ref 7 []))),(16,.pl (.one (.ref 8 []))),(17,.pl (.one (.v (.sc (.int .i64 k_1)))))],[(4,.box true [.list false 1 (List.map (rL false 1 (rK .i64)) w.Parents),.list false 4 (List.map (zC false) w.Bodies)]),(5,.box true [.list true 1 (List.map (rL true 1 (rK .i64)) []),.list true 4 (List.map (zC true) [])]),(6,.list true 1 (List.map (rL true 1 rS) behind)),(7,.list true 1 (List.map rB stays)),(8,.box true [.list true 1 (List.map (rL true 1 (rK .i64)) out__6),.list true 4 (List.map (zC true) [])])]⟩) [1,3,6,9,12,13,16,17] [(4,4),(5,5),(6,6),(7,7),(8,8)] 9 ⟨_,_,rfl,rfl⟩ ?_
      rintro s' _ ⟨k_1,out__6,rfl,rfl⟩ y1'
      change Tl _ (spec_l06Add_l3 w k_1 out__6) _ _; unfold spec_l06Add_l3
      refine sq ?_
      refine go ?_
      refine sp ?_ ?_
      ·refine go ?_
       refine sq ?_
       refine go ?_
       refine rc [0,3,5,1,2,4,6,7,8,9,10,11,12] ?_
       refine go ?_; intro x_4 v'
       refine go ?_; intro l_6 v'
       refine fk (appz_f (rK .i64) v') ?_
       refine go ?_; intro l_7 v'
       refine go ?_
       exact bk [1,3,6,9,12,13,16,17] [(4,4),(5,5),(6,6),(7,7),(8,8)] 9 ⟨_,_,rfl,rfl⟩
      ·refine go ?_
       exact je [1,3,6,9,12,13,16] [(4,4),(5,5),(6,6),(7,7),(8,8)] 9 fun h=>⟨_,h,rfl⟩
     ·rintro e' ⟨out_,h,rfl⟩; refine tl h ?_; unfold spec_l06Add_j2
      refine go ?_
      refine rc [0,3,1,2,4,5,6,7,8] ?_
      refine go ?_; intro l v'
      refine fk (appz_f (rK .i64) v') ?_
      refine go ?_; intro l_1 v'
      refine go ?_; intro x120
      refine go ?_
      refine jn (fun e'=>∃ out__1,spec_l06Add_j3 w l_1 out__1=some r'∧e'=⟨197,4,6,[(6,.pl (.one (.ref 4 []))),(9,.pl (.one (.v (.sc (.int .i64 (w.Parents.length:Int)))))),(16,.pl (.one (.ref 5 [])))],[(4,.box true [.list true 1 (List.map (rL true 1 (rK .i64)) []),.list true 4 (List.map (zC true) [])]),(5,.box true [.list true 1 (List.map (rL true 1 (rK .i64)) l_1),.list true 4 (List.map (zC true) out__1)])]⟩) ?_ ?_
      ·refine go ?_
       refine lp (fun s' e'=>∃ ord i out__2,s'=(ord,i,out__2)∧e'=⟨197,4,10,[(3,.pl (.one (.ref 4 []))),(6,.pl (.one (.ref 5 []))),(9,.pl (.one (.v (.sc (.int .i64 (w.Parents.length:Int)))))),(12,.pl (.one (.ref 6 []))),(13,.pl (.one (.ref 7 []))),(16,.pl (.one (.ref 8 []))),(18,.pl (.one (.ref 9 []))),(19,.pl (.one (.v (.sc (.int .i64 ord))))),(20,.pl (.one (.v (.sc (.int .i64 i)))))],[(4,.box true [.list false 1 (List.map (rL false 1 (rK .i64)) w.Parents),.list false 4 (List.map (zC false) w.Bodies)]),(5,.box true [.list true 1 (List.map (rL true 1 (rK .i64)) []),.list true 4 (List.map (zC true) [])]),(6,.list true 1 (List.map (rL true 1 rS) behind)),(7,.list true 1 (List.map rB stays)),(8,.box true [.list true 1 (List.map (rL true 1 (rK .i64)) l_1),.list true 4 (List.map (zC true) out__2)]),(9,.list true 1 (List.map rB x120))]⟩) [3,6,9,12,13,16,18,19,20] [(4,4),(5,5),(6,6),(7,7),(8,8),(12,9)] 10 ⟨_,_,_,rfl,rfl⟩ ?_
       rintro s' _ ⟨ord,i,out__2,rfl,rfl⟩ y1'
       change Tl _ (jI w behind stays x120 ord i out__2) _ _; unfold jI
       refine sq ?_
       refine go ?_
       refine sp ?_ ?_
       ·refine go ?_
        refine jn (fun e'=>∃ ord_1 out__3,spec_l06Add_j4 i ord_1 out__3=some y1'∧e'=⟨197,4,10,[(3,.pl (.one (.ref 4 []))),(6,.pl (.one (.ref 5 []))),(9,.pl (.one (.v (.sc (.int .i64 (w.Parents.length:Int)))))),(12,.pl (.one (.ref 6 []))),(13,.pl (.one (.ref 7 []))),(16,.pl (.one (.ref 8 []))),(18,.pl (.one (.ref 9 []))),(19,.pl (.one (.v (.sc (.int .i64 ord_1))))),(20,.pl (.one (.v (.sc (.int .i64 i)))))],[(4,.box true [.list false 1 (List.map (rL false 1 (rK .i64)) w.Parents),.list false 4 (List.map (zC false) w.Bodies)]),(5,.box true [.list true 1 (List.map (rL true 1 (rK .i64)) []),.list true 4 (List.map (zC true) [])]),(6,.list true 1 (List.map (rL true 1 rS) behind)),(7,.list true 1 (List.map rB stays)),(8,.box true [.list true 1 (List.map (rL true 1 (rK .i64)) l_1),.list true 4 (List.map (zC true) out__3)]),(9,.list true 1 (List.map rB x120))]⟩) ?_ ?_
        ·refine go ?_
         refine jn (fun e'=>∃ out__4,spec_l06Add_j5 w behind ord i out__4=some y1'∧e'=⟨197,4,10,[(3,.pl (.one (.ref 4 []))),(6,.pl (.one (.ref 5 []))),(9,.pl (.one (.v (.sc (.int .i64 (w.Parents.length:Int)))))),(12,.pl (.one (.ref 6 []))),(13,.pl (.one (.ref 7 []))),(16,.pl (.one (.ref 8 []))),(18,.pl (.one (.ref 9 []))),(19,.pl (.one (.v (.sc (.int .i64 ord))))),(20,.pl (.one (.v (.sc (.int .i64 i)))))],[(4,.box true [.list false 1 (List.map (rL false 1 (rK .i64)) w.Parents),.list false 4 (List.map (zC false) w.Bodies)]),(5,.box true [.list true 1 (List.map (rL true 1 (rK .i64)) []),.list true 4 (List.map (zC true) [])]),(6,.list true 1 (List.map (rL true 1 rS) behind)),(7,.list true 1 (List.map rB stays)),(8,.box true [.list true 1 (List.map (rL true 1 (rK .i64)) l_1),.list true 4 (List.map (zC true) out__4)]),(9,.list true 1 (List.map rB x120))]⟩) ?_ ?_
         ·refine go ?_
          refine sp ?_ ?_
          ·refine go ?_; intro x_2 v'
           refine go ?_
           refine l1 ?_
           refine go ?_; intro l_3 v'
           refine fk (appz_f (rK .i64) v') ?_
           refine go ?_
           refine jn (fun e'=>∃ b,spec_l06Add_j6 w behind ord i out__2 x_2 b=some y1'∧e'=⟨197,4,11,[(3,.pl (.one (.ref 4 []))),(6,.pl (.one (.ref 5 []))),(9,.pl (.one (.v (.sc (.int .i64 (w.Parents.length:Int)))))),(12,.pl (.one (.ref 6 []))),(13,.pl (.one (.ref 7 []))),(16,.pl (.one (.ref 8 []))),(18,.pl (.one (.ref 9 []))),(19,.pl (.one (.v (.sc (.int .i64 ord))))),(20,.pl (.one (.v (.sc (.int .i64 i))))),(21,.pl (.one (.ref 10 [])))],[(4,.box true [.list false 1 (List.map (rL false 1 (rK .i64)) w.Parents),.list false 4 (List.map (zC false) w.Bodies)]),(5,.box true [.list true 1 (List.map (rL true 1 (rK .i64)) []),.list true 4 (List.map (zC true) [])]),(6,.list true 1 (List.map (rL true 1 rS) behind)),(7,.list true 1 (List.map rB stays)),(8,.box true [.list true 1 (List.map (rL true 1 (rK .i64)) l_1),.list true 4 (List.map (zC true) out__2)]),(9,.list true 1 (List.map rB x120)),(10,.box true [.sc (.string x_2.Line),.sc (.int .i64 x_2.Ins),.sc (.int .i64 x_2.Ord),.list true 1 (List.map (rK .i64) b)])]⟩) ?_ ?_
           ·refine go ?_; intro x_3 v'
            refine go ?_
            refine gc 4 (fun b_1 e'=>e'=⟨197,4,11,[(3,.pl (.one (.ref 4 []))),(6,.pl (.one (.ref 5 []))),(9,.pl (.one (.v (.sc (.int .i64 (w.Parents.length:Int)))))),(12,.pl (.one (.ref 6 []))),(13,.pl (.one (.ref 7 []))),(16,.pl (.one (.ref 8 []))),(18,.pl (.one (.ref 9 []))),(19,.pl (.one (.v (.sc (.int .i64 ord))))),(20,.pl (.one (.v (.sc (.int .i64 i))))),(21,.pl (.one (.ref 10 []))),(151,.pl (.one (.v (.sc (.bool b_1)))))],[(4,.box true [.list false 1 (List.map (rL false 1 (rK .i64)) w.Parents),.list false 4 (List.map (zC false) w.Bodies)]),(5,.box true [.list true 1 (List.map (rL true 1 (rK .i64)) []),.list true 4 (List.map (zC true) [])]),(6,.list true 1 (List.map (rL true 1 rS) behind)),(7,.list true 1 (List.map rB stays)),(8,.box true [.list true 1 (List.map (rL true 1 (rK .i64)) l_1),.list true 4 (List.map (zC true) out__2)]),(9,.list true 1 (List.map rB x120)),(10,.box true [.sc (.string x_2.Line),.sc (.int .i64 x_2.Ins),.sc (.int .i64 x_2.Ord),.list true 1 (List.map (rK .i64) l_3)])]⟩) ?_ ?_
            ·intro p
             refine qT ?_ ?_
             ·refine go ?_; intro x150
              refine go ?_
              exact ge [3,6,9,12,13,16,18,19,20,21,151] [(4,4),(5,5),(6,6),(7,7),(8,8),(9,9),(10,10)] 11 rfl
             ·refine go ?_
              exact ge [3,6,9,12,13,16,18,19,20,21,151] [(4,4),(5,5),(6,6),(7,7),(8,8),(9,9),(10,10)] 11 rfl
            ·rintro b_1 _ rfl
             refine go ?_
             refine sp ?_ ?_
             ·refine go ?_; intro l_5 v'
              refine go ?_
              exact je [3,6,9,12,13,16,18,19,20,21] [(4,4),(5,5),(6,6),(7,7),(8,8),(9,9),(10,10)] 11 fun h=>⟨_,h,rfl⟩
             ·refine go ?_
              exact je [3,6,9,12,13,16,18,19,20,21] [(4,4),(5,5),(6,6),(7,7),(8,8),(9,9),(10,10)] 11 fun h=>⟨_,h,rfl⟩
           ·rintro e' ⟨b,h,rfl⟩; refine tl h ?_; unfold spec_l06Add_j6
            refine go ?_; intro l_4 v'
            refine go ?_
            exact je [3,6,9,12,13,16,18,19,20] [(4,4),(5,5),(6,6),(7,7),(8,8),(9,9)] 10 fun h=>⟨_,h,rfl⟩
          ·refine go ?_
           exact je [3,6,9,12,13,16,18,19,20] [(4,4),(5,5),(6,6),(7,7),(8,8),(9,9)] 10 fun h=>⟨_,h,rfl⟩
         ·rintro e' ⟨out__4,h,rfl⟩; refine tl h ?_; unfold spec_l06Add_j5
          refine go ?_
          refine lp (fun s' e'=>∃ ord_2 k out__5,s'=(ord_2,k,out__5)∧e'=⟨197,4,10,[(3,.pl (.one (.ref 4 []))),(6,.pl (.one (.ref 5 []))),(9,.pl (.one (.v (.sc (.int .i64 (w.Parents.length:Int)))))),(12,.pl (.one (.ref 6 []))),(13,.pl (.one (.ref 7 []))),(16,.pl (.one (.ref 8 []))),(18,.pl (.one (.ref 9 []))),(19,.pl (.one (.v (.sc (.int .i64 ord_2))))),(20,.pl (.one (.v (.sc (.int .i64 i))))),(22,.pl (.one (.v (.sc (.int .i64 k)))))],[(4,.box true [.list false 1 (List.map (rL false 1 (rK .i64)) w.Parents),.list false 4 (List.map (zC false) w.Bodies)]),(5,.box true [.list true 1 (List.map (rL true 1 (rK .i64)) []),.list true 4 (List.map (zC true) [])]),(6,.list true 1 (List.map (rL true 1 rS) behind)),(7,.list true 1 (List.map rB stays)),(8,.box true [.list true 1 (List.map (rL true 1 (rK .i64)) l_1),.list true 4 (List.map (zC true) out__5)]),(9,.list true 1 (List.map rB x120))]⟩) [3,6,9,12,13,16,18,19,20,22] [(4,4),(5,5),(6,6),(7,7),(8,8),(9,9)] 10 ⟨_,_,_,rfl,rfl⟩ ?_
          rintro s' _ ⟨ord_2,k,out__5,rfl,rfl⟩ y2'
          change Tl _ (spec_l06Add_l2 w behind i ord_2 k out__5) _ _; unfold spec_l06Add_l2
          refine sq ?_
          refine go ?_; intro x v'
          refine go ?_
          refine sp ?_ ?_
          ·refine go ?_
           refine sq ?_
           refine go ?_
           refine rc [0,2,3,4,6,9,10,1,5,7,8,11,12,13,14,15] ?_
           refine go ?_; intro x_1 v'
           refine go ?_; intro l_2 v'
           refine go ?_
           exact bk [3,6,9,12,13,16,18,19,20,22] [(4,4),(5,5),(6,6),(7,7),(8,8),(9,9)] 10 ⟨_,_,_,rfl,rfl⟩
          ·refine go ?_
           exact je [3,6,9,12,13,16,18,19,20] [(4,4),(5,5),(6,6),(7,7),(8,8),(9,9)] 10 fun h=>⟨_,_,h,rfl⟩
        ·rintro e' ⟨ord_1,out__3,h,rfl⟩; refine tl h ?_; unfold spec_l06Add_j4
         refine go ?_
         exact bk [3,6,9,12,13,16,18,19,20] [(4,4),(5,5),(6,6),(7,7),(8,8),(9,9)] 10 ⟨_,_,_,rfl,rfl⟩
       ·refine go ?_
        exact je [6,9,16] [(5,4),(8,5)] 6 fun h=>⟨_,h,rfl⟩
      ·rintro e' ⟨out__1,h,rfl⟩; refine tl h ?_; unfold spec_l06Add_j3
       refine sq ?_
       refine go ?_
       refine sp ?_ ?_
       ·exact gz
       ·exact gz
instance W_spec_l15Commit:∀ s parents note changes,Wlk X (spec_l15Commit s parents note changes) 138 [] [.agg [.list false 3 (List.map (zA false) s.Commits),.list false 2 (List.map (zB false) s.Files)],.one (.list false 1 (List.map (rK .i64) parents)),.one (.sc (.string note)),.one (.list false 4 (List.map (zE false) changes))] (fun r'=>[.agg [.list true 3 (List.map (zA true) r'.1.Commits),.list true 2 (List.map (zB true) r'.1.Files)],.one (.sc (.int .i64 r'.2.1)),.one (.sc (.int .i64 r'.2.2))]) (fun r'=>[]):=fun s parents note changes=>by
 refine ws f138 229 [.cell 8 27,.tmp 9,.tmp 10] (h2 t3 (h2 t9 (h2 t24 (h2 t25 (h2 t27 (h2 t33 (h2 t34 (h2 t36 (h2 t37 (h2 t40 (h2 t41 (h2 t43 (h2 t45 (h2 t144 (h2 t149 (h2 t260 (h2 R_LLi64 (h2 qX (h2 zS (h2 R_T_impl_Change (h2 qK (h2 zT (h2 jJ (h2 R_i64 R_s)))))))))))))))))))))))) ?_
 intro r'; unfold spec_l15Commit
 refine go ?_
 refine l1 ?_
 refine go ?_
 refine sq ?_
 refine go ?_
 refine gc 7 (fun b e'=>e'=⟨229,5,7,[(1,.pl (.one (.v (.list false 1 (List.map (rK .i64) parents))))),(2,.pl (.one (.v (.sc (.string note))))),(3,.pl (.one (.v (.list false 4 (List.map (zE false) changes))))),(4,.pl (.one (.ref 5 []))),(8,.pl (.one (.ref 6 []))),(36,.pl (.one (.v (.sc (.bool b)))))],[(5,.box true [.list false 3 (List.map (zA false) s.Commits),.list false 2 (List.map (zB false) s.Files)]),(6,.box true [.list true 3 (List.map (zA true) []),.list true 2 (List.map (zB true) [])])]⟩) ?_ ?_
 ·intro p
  refine zY ?_ ?_
  ·refine go ?_
   exact ge [1,2,3,4,8,36] [(5,5),(6,6)] 7 rfl
  ·refine go ?_; intro x34
   refine go ?_
   exact ge [1,2,3,4,8,36] [(5,5),(6,6)] 7 rfl
 ·rintro b _ rfl
  refine go ?_
  refine sp ?_ ?_
  ·exact gz
  ·refine go ?_
   refine sq ?_
   refine go ?_; intro x39
   refine go ?_
   refine sp ?_ ?_
   ·exact gz
   ·refine go ?_
    refine rc [0,4,1,2,3,5,6,7,8,9,10,11,12] ?_
    refine go ?_; intro x46
    refine go ?_; intro x48
    refine go ?_
    refine l1 ?_
    refine go ?_
    refine jn (fun e'=>∃ p,spec_l15Commit_j1 s parents note changes x48 p=some r'∧e'=⟨229,5,9,[(1,.pl (.one (.v (.list false 1 (List.map (rK .i64) parents))))),(2,.pl (.one (.v (.sc (.string note))))),(3,.pl (.one (.v (.list false 4 (List.map (zE false) changes))))),(4,.pl (.one (.ref 5 []))),(8,.pl (.one (.ref 6 []))),(12,.pl (.one (.ref 7 []))),(13,.pl (.one (.v (.sc (.int .i64 x48.2.2))))),(14,.pl (.one (.ref 8 [])))],[(5,.box true [.list false 3 (List.map (zA false) s.Commits),.list false 2 (List.map (zB false) s.Files)]),(6,.box true [.list true 3 (List.map (zA true) []),.list true 2 (List.map (zB true) [])]),(7,.list true 1 (List.map (rK .i64) x48.2.1)),(8,.box true [.list true 3 (List.map (zD true) x48.1),.list true 1 (List.map (rK .i64) p),.sc (.int .i64 (s.Files.length:Int))])]⟩) ?_ ?_
    ·refine go ?_
     refine lp (fun s' e'=>∃ i_2 p_9,s'=(i_2,p_9)∧e'=⟨229,5,9,[(1,.pl (.one (.v (.list false 1 (List.map (rK .i64) parents))))),(2,.pl (.one (.v (.sc (.string note))))),(3,.pl (.one (.v (.list false 4 (List.map (zE false) changes))))),(4,.pl (.one (.ref 5 []))),(8,.pl (.one (.ref 6 []))),(12,.pl (.one (.ref 7 []))),(13,.pl (.one (.v (.sc (.int .i64 x48.2.2))))),(14,.pl (.one (.ref 8 []))),(15,.pl (.one (.v (.sc (.int .i64 i_2)))))],[(5,.box true [.list false 3 (List.map (zA false) s.Commits),.list false 2 (List.map (zB false) s.Files)]),(6,.box true [.list true 3 (List.map (zA true) []),.list true 2 (List.map (zB true) [])]),(7,.list true 1 (List.map (rK .i64) x48.2.1)),(8,.box true [.list true 3 (List.map (zD true) x48.1),.list true 1 (List.map (rK .i64) p_9),.sc (.int .i64 (s.Files.length:Int))])]⟩) [1,2,3,4,8,12,13,14,15] [(5,5),(6,6),(10,7),(12,8)] 9 ⟨_,_,rfl,rfl⟩ ?_
     rintro s' _ ⟨i_2,p_9,rfl,rfl⟩ y1'
     change Tl _ (spec_l15Commit_l4 s i_2 p_9) _ _; unfold spec_l15Commit_l4
     refine sq ?_
     refine go ?_
     refine sp ?_ ?_
     ·refine go ?_
      refine sq ?_
      refine go ?_; intro l_3 v'
      refine go ?_
      exact bk [1,2,3,4,8,12,13,14,15] [(5,5),(6,6),(7,7),(8,8)] 9 ⟨_,_,rfl,rfl⟩
     ·refine go ?_
      exact je [1,2,3,4,8,12,13,14] [(5,5),(6,6),(7,7),(8,8)] 9 fun h=>⟨_,h,rfl⟩
    ·rintro e' ⟨p,h,rfl⟩; refine tl h ?_; unfold spec_l15Commit_j1
     refine sq ?_
     refine go ?_
     refine gc 4 (fun b_1 e'=>e'=⟨229,5,9,[(1,.pl (.one (.v (.list false 1 (List.map (rK .i64) parents))))),(2,.pl (.one (.v (.sc (.string note))))),(3,.pl (.one (.v (.list false 4 (List.map (zE false) changes))))),(4,.pl (.one (.ref 5 []))),(8,.pl (.one (.ref 6 []))),(12,.pl (.one (.ref 7 []))),(14,.pl (.one (.ref 8 []))),(75,.pl (.one (.v (.sc (.bool b_1.1)))))],[(5,.box true [.list false 3 (List.map (zA false) s.Commits),.list false 2 (List.map (zB false) s.Files)]),(6,.box true [.list true 3 (List.map (zA true) []),.list true 2 (List.map (zB true) [])]),(7,.list true 1 (List.map (rK .i64) x48.2.1)),(8,.box true [.list true 3 (List.map (zD true) b_1.2.1),.list true 1 (List.map (rK .i64) b_1.2.2.1),.sc (.int .i64 b_1.2.2.2)])]⟩) ?_ ?_
     ·intro p
      refine zY ?_ ?_
      ·refine go ?_
       exact ge [1,2,3,4,8,12,14,75] [(5,5),(6,6),(7,7),(8,8)] 9 rfl
      ·refine go ?_; intro x73
       refine go ?_
       exact ge [1,2,3,4,8,12,14,75] [(5,5),(6,6),(7,7),(8,8)] 9 rfl
     ·rintro b_1 _ rfl
      refine go ?_
      refine sp ?_ ?_
      ·exact gz
      ·refine go ?_
       refine jn (fun e'=>spec_l15Commit_j2 s parents note changes x48 b_1=some r'∧e'=⟨229,5,9,[(1,.pl (.one (.v (.list false 1 (List.map (rK .i64) parents))))),(2,.pl (.one (.v (.sc (.string note))))),(3,.pl (.one (.v (.list false 4 (List.map (zE false) changes))))),(4,.pl (.one (.ref 5 []))),(8,.pl (.one (.ref 6 []))),(12,.pl (.one (.ref 7 []))),(14,.pl (.one (.ref 8 [])))],[(5,.box true [.list false 3 (List.map (zA false) s.Commits),.list false 2 (List.map (zB false) s.Files)]),(6,.box true [.list true 3 (List.map (zA true) []),.list true 2 (List.map (zB true) [])]),(7,.list true 1 (List.map (rK .i64) x48.2.1)),(8,.box true [.list true 3 (List.map (zD true) b_1.2.1),.list true 1 (List.map (rK .i64) b_1.2.2.1),.sc (.int .i64 b_1.2.2.2)])]⟩) ?_ ?_
       ·refine go ?_
        refine lp (fun i_1 e'=>e'=⟨229,5,9,[(1,.pl (.one (.v (.list false 1 (List.map (rK .i64) parents))))),(2,.pl (.one (.v (.sc (.string note))))),(3,.pl (.one (.v (.list false 4 (List.map (zE false) changes))))),(4,.pl (.one (.ref 5 []))),(8,.pl (.one (.ref 6 []))),(12,.pl (.one (.ref 7 []))),(14,.pl (.one (.ref 8 []))),(16,.pl (.one (.v (.sc (.int .i64 i_1)))))],[(5,.box true [.list false 3 (List.map (zA false) s.Commits),.list false 2 (List.map (zB false) s.Files)]),(6,.box true [.list true 3 (List.map (zA true) []),.list true 2 (List.map (zB true) [])]),(7,.list true 1 (List.map (rK .i64) x48.2.1)),(8,.box true [.list true 3 (List.map (zD true) b_1.2.1),.list true 1 (List.map (rK .i64) b_1.2.2.1),.sc (.int .i64 b_1.2.2.2)])]⟩) [1,2,3,4,8,12,14,16] [(5,5),(6,6),(7,7),(8,8)] 9 rfl ?_
        rintro i_1 _ rfl y1'
        change Tl _ (spec_l15Commit_l3 changes i_1) _ _; unfold spec_l15Commit_l3
        refine sq ?_
        refine go ?_
        refine sp ?_ ?_
        ·refine go ?_
         refine sq ?_
         refine go ?_; intro x_8 v'
         refine go ?_
         refine gc 8 (fun b_4 e'=>e'=⟨229,5,9,[(1,.pl (.one (.v (.list false 1 (List.map (rK .i64) parents))))),(2,.pl (.one (.v (.sc (.string note))))),(3,.pl (.one (.v (.list false 4 (List.map (zE false) changes))))),(4,.pl (.one (.ref 5 []))),(8,.pl (.one (.ref 6 []))),(12,.pl (.one (.ref 7 []))),(14,.pl (.one (.ref 8 []))),(16,.pl (.one (.v (.sc (.int .i64 i_1))))),(97,.pl (.one (.v (.sc (.bool b_4)))))],[(5,.box true [.list false 3 (List.map (zA false) s.Commits),.list false 2 (List.map (zB false) s.Files)]),(6,.box true [.list true 3 (List.map (zA true) []),.list true 2 (List.map (zB true) [])]),(7,.list true 1 (List.map (rK .i64) x48.2.1)),(8,.box true [.list true 3 (List.map (zD true) b_1.2.1),.list true 1 (List.map (rK .i64) b_1.2.2.1),.sc (.int .i64 b_1.2.2.2)])]⟩) ?_ ?_
         ·intro p
          refine qT ?_ ?_
          ·refine go ?_; intro x95
           refine go ?_
           exact ge [1,2,3,4,8,12,14,16,97] [(5,5),(6,6),(7,7),(8,8)] 9 rfl
          ·refine go ?_
           exact ge [1,2,3,4,8,12,14,16,97] [(5,5),(6,6),(7,7),(8,8)] 9 rfl
         ·rintro b_4 _ rfl
          refine go ?_
          refine sp ?_ ?_
          ·exact gz
          ·refine go ?_
           exact bk [1,2,3,4,8,12,14,16] [(5,5),(6,6),(7,7),(8,8)] 9 rfl
        ·refine go ?_
         exact je [1,2,3,4,8,12,14] [(5,5),(6,6),(7,7),(8,8)] 9 fun h=>⟨h,rfl⟩
       ·rintro e' ⟨h,rfl⟩; refine tl h ?_; unfold spec_l15Commit_j2
        refine jn (fun e'=>spec_l15Commit_j3 s parents note changes b_1=some r'∧e'=⟨229,5,8,[(1,.pl (.one (.v (.list false 1 (List.map (rK .i64) parents))))),(2,.pl (.one (.v (.sc (.string note))))),(3,.pl (.one (.v (.list false 4 (List.map (zE false) changes))))),(4,.pl (.one (.ref 5 []))),(8,.pl (.one (.ref 6 []))),(14,.pl (.one (.ref 7 [])))],[(5,.box true [.list false 3 (List.map (zA false) s.Commits),.list false 2 (List.map (zB false) s.Files)]),(6,.box true [.list true 3 (List.map (zA true) []),.list true 2 (List.map (zB true) [])]),(7,.box true [.list true 3 (List.map (zD true) b_1.2.1),.list true 1 (List.map (rK .i64) b_1.2.2.1),.sc (.int .i64 b_1.2.2.2)])]⟩) ?_ ?_
        ·refine go ?_
         refine lp (fun i e'=>e'=⟨229,5,9,[(1,.pl (.one (.v (.list false 1 (List.map (rK .i64) parents))))),(2,.pl (.one (.v (.sc (.string note))))),(3,.pl (.one (.v (.list false 4 (List.map (zE false) changes))))),(4,.pl (.one (.ref 5 []))),(8,.pl (.one (.ref 6 []))),(12,.pl (.one (.ref 7 []))),(14,.pl (.one (.ref 8 []))),(17,.pl (.one (.v (.sc (.int .i64 i)))))],[(5,.box true [.list false 3 (List.map (zA false) s.Commits),.list false 2 (List.map (zB false) s.Files)]),(6,.box true [.list true 3 (List.map (zA true) []),.list true 2 (List.map (zB true) [])]),(7,.list true 1 (List.map (rK .i64) x48.2.1)),(8,.box true [.list true 3 (List.map (zD true) b_1.2.1),.list true 1 (List.map (rK .i64) b_1.2.2.1),.sc (.int .i64 b_1.2.2.2)])]⟩) [1,2,3,4,8,12,14,17] [(5,5),(6,6),(7,7),(8,8)] 9 rfl ?_
         rintro i _ rfl y1'
         change Tl _ (spec_l15Commit_l2 x48 b_1 i) _ _; unfold spec_l15Commit_l2
         refine sq ?_
         refine go ?_
         refine sp ?_ ?_
         ·refine go ?_
          refine sq ?_
          refine go ?_
          refine rq ?_
          refine go ?_; intro x_6 v'
          refine go ?_; intro x_7 v'
          refine go ?_
          refine qc 9 (fun b_3 e'=>e'=⟨229,5,9,[(1,.pl (.one (.v (.list false 1 (List.map (rK .i64) parents))))),(2,.pl (.one (.v (.sc (.string note))))),(3,.pl (.one (.v (.list false 4 (List.map (zE false) changes))))),(4,.pl (.one (.ref 5 []))),(8,.pl (.one (.ref 6 []))),(12,.pl (.one (.ref 7 []))),(14,.pl (.one (.ref 8 []))),(17,.pl (.one (.v (.sc (.int .i64 i))))),(123,.pl (.one (.v (.sc (.bool b_3)))))],[(5,.box true [.list false 3 (List.map (zA false) s.Commits),.list false 2 (List.map (zB false) s.Files)]),(6,.box true [.list true 3 (List.map (zA true) []),.list true 2 (List.map (zB true) [])]),(7,.list true 1 (List.map (rK .i64) x48.2.1)),(8,.box true [.list true 3 (List.map (zD true) b_1.2.1),.list true 1 (List.map (rK .i64) b_1.2.2.1),.sc (.int .i64 b_1.2.2.2)])]⟩) ?_ ?_
          ·intro p
           refine quV_spL ?_ ?_
           ·refine go ?_; intro x121
            refine go ?_
            exact ge [1,2,3,4,8,12,14,17,123] [(5,5),(6,6),(7,7),(8,8)] 9 rfl
           ·refine go ?_
            exact ge [1,2,3,4,8,12,14,17,123] [(5,5),(6,6),(7,7),(8,8)] 9 rfl
          ·rintro b_3 _ rfl
           refine go ?_
           refine sp ?_ ?_
           ·exact gz
           ·refine go ?_
            exact bk [1,2,3,4,8,12,14,17] [(5,5),(6,6),(7,7),(8,8)] 9 rfl
         ·refine go ?_
          exact je [1,2,3,4,8,14] [(5,5),(6,6),(8,7)] 8 fun h=>⟨h,rfl⟩
        ·rintro e' ⟨h,rfl⟩; refine tl h ?_; unfold spec_l15Commit_j3
         refine sq ?_
         refine go ?_
         refine gc 5 (fun b_2 e'=>e'=⟨229,5,8,[(1,.pl (.one (.v (.list false 1 (List.map (rK .i64) parents))))),(2,.pl (.one (.v (.sc (.string note))))),(3,.pl (.one (.v (.list false 4 (List.map (zE false) changes))))),(4,.pl (.one (.ref 5 []))),(8,.pl (.one (.ref 6 []))),(14,.pl (.one (.ref 7 []))),(133,.pl (.one (.v (.sc (.bool b_2)))))],[(5,.box true [.list false 3 (List.map (zA false) s.Commits),.list false 2 (List.map (zB false) s.Files)]),(6,.box true [.list true 3 (List.map (zA true) []),.list true 2 (List.map (zB true) [])]),(7,.box true [.list true 3 (List.map (zD true) b_1.2.1),.list true 1 (List.map (rK .i64) b_1.2.2.1),.sc (.int .i64 b_1.2.2.2)])]⟩) ?_ ?_
         ·intro p
          refine zY ?_ ?_
          ·refine go ?_
           exact ge [1,2,3,4,8,14,133] [(5,5),(6,6),(7,7)] 8 rfl
          ·refine go ?_
           exact ge [1,2,3,4,8,14,133] [(5,5),(6,6),(7,7)] 8 rfl
         ·rintro b_2 _ rfl
          refine go ?_
          refine sp ?_ ?_
          ·exact gz
          ·refine go ?_; intro x136
           refine go ?_
           refine l1 ?_
           refine go ?_
           refine jn (fun e'=>∃ p_4 out_,spec_l15Commit_j4 s parents note x136 p_4 out_=some r'∧e'=⟨229,5,9,[(1,.pl (.one (.v (.list false 1 (List.map (rK .i64) parents))))),(2,.pl (.one (.v (.sc (.string note))))),(4,.pl (.one (.ref 5 []))),(8,.pl (.one (.ref 6 []))),(14,.pl (.one (.ref 7 []))),(18,.pl (.one (.ref 8 [])))],[(5,.box true [.list false 3 (List.map (zA false) s.Commits),.list false 2 (List.map (zB false) s.Files)]),(6,.box true [.list true 3 (List.map (zA true) []),.list true 2 (List.map (zB true) [])]),(7,.box true [.list true 3 (List.map (zD true) p_4),.list true 1 (List.map (rK .i64) b_1.2.2.1),.sc (.int .i64 b_1.2.2.2)]),(8,.box true [.list true 3 (List.map (zA true) x136.Commits),.list true 2 (List.map (zB true) out_)])]⟩) ?_ ?_
           ·refine go ?_
            refine lp (fun s' e'=>∃ id p_5 out__1,s'=(id,p_5,out__1)∧e'=⟨229,5,9,[(1,.pl (.one (.v (.list false 1 (List.map (rK .i64) parents))))),(2,.pl (.one (.v (.sc (.string note))))),(3,.pl (.one (.v (.list false 4 (List.map (zE false) changes))))),(4,.pl (.one (.ref 5 []))),(8,.pl (.one (.ref 6 []))),(14,.pl (.one (.ref 7 []))),(18,.pl (.one (.ref 8 []))),(19,.pl (.one (.v (.sc (.int .i64 id)))))],[(5,.box true [.list false 3 (List.map (zA false) s.Commits),.list false 2 (List.map (zB false) s.Files)]),(6,.box true [.list true 3 (List.map (zA true) []),.list true 2 (List.map (zB true) [])]),(7,.box true [.list true 3 (List.map (zD true) p_5),.list true 1 (List.map (rK .i64) b_1.2.2.1),.sc (.int .i64 b_1.2.2.2)]),(8,.box true [.list true 3 (List.map (zA true) x136.Commits),.list true 2 (List.map (zB true) out__1)])]⟩) [1,2,3,4,8,14,18,19] [(5,5),(6,6),(7,7),(10,8)] 9 ⟨_,_,_,rfl,rfl⟩ ?_
            rintro s' _ ⟨id,p_5,out__1,rfl,rfl⟩ y1'
            change Tl _ (jZ s parents changes b_1 id p_5 out__1) _ _; unfold jZ
            refine sq ?_
            refine go ?_
            refine sp ?_ ?_
            ·refine go ?_
             refine sq ?_
             refine go ?_
             refine sq ?_
             refine go ?_; intro x v'
             refine go ?_
             refine sp ?_ ?_
             ·refine go ?_
              exact bk [1,2,3,4,8,14,18,19] [(5,5),(6,6),(7,7),(8,8)] 9 ⟨_,_,_,rfl,rfl⟩
             ·refine go ?_
              refine l1 ?_
              refine go ?_
              refine jn (fun e'=>∃ w w_1 from_,spec_l15Commit_j5 s changes b_1 id p_5 out__1 w w_1 from_=some y1'∧e'=⟨229,5,11,[(1,.pl (.one (.v (.list false 1 (List.map (rK .i64) parents))))),(2,.pl (.one (.v (.sc (.string note))))),(3,.pl (.one (.v (.list false 4 (List.map (zE false) changes))))),(4,.pl (.one (.ref 5 []))),(8,.pl (.one (.ref 6 []))),(14,.pl (.one (.ref 7 []))),(18,.pl (.one (.ref 8 []))),(19,.pl (.one (.v (.sc (.int .i64 id))))),(20,.pl (.one (.ref 9 []))),(21,.pl (.one (.ref 10 [])))],[(5,.box true [.list false 3 (List.map (zA false) s.Commits),.list false 2 (List.map (zB false) s.Files)]),(6,.box true [.list true 3 (List.map (zA true) []),.list true 2 (List.map (zB true) [])]),(7,.box true [.list true 3 (List.map (zD true) p_5),.list true 1 (List.map (rK .i64) b_1.2.2.1),.sc (.int .i64 b_1.2.2.2)]),(8,.box true [.list true 3 (List.map (zA true) x136.Commits),.list true 2 (List.map (zB true) out__1)]),(9,.box true [.list false 1 (List.map (rL false 1 (rK .i64)) w),.list false 4 (List.map (zC false) w_1)]),(10,.list true 1 (List.map (rK .i64) from_))]⟩) ?_ ?_
              ·refine go ?_
               refine sp ?_ ?_
               ·refine go ?_; intro x_5 v'
                refine go ?_; intro x165
                refine go ?_
                exact je [1,2,3,4,8,14,18,19,20,21] [(5,5),(6,6),(7,7),(8,8),(9,9),(11,10)] 11 fun h=>⟨_,_,_,h,rfl⟩
               ·refine go ?_
                refine sI 9 ?_
                exact je [1,2,3,4,8,14,18,19,20,21] [(5,5),(6,6),(7,7),(8,8),(9,9),(10,10)] 11 fun h=>⟨_,_,_,h,rfl⟩
              ·rintro e' ⟨w,w_1,from_,h,rfl⟩; refine tl h ?_; unfold spec_l15Commit_j5
               refine go ?_
               refine rc [1,2,3,5,0,4,6,7,8,9,10,11,12,13,14,15,16,17,18,19] ?_
               refine go ?_; intro x_1 v'
               refine go ?_; intro x_2 v'
               refine go ?_; intro x178
               refine go ?_
               refine sq ?_
               refine go ?_
               refine sp ?_ ?_
               ·exact gz
               ·refine go ?_
                refine jn (fun e'=>∃ out__2,spec_l15Commit_j6 id p_5 x178 out__2=some y1'∧e'=⟨229,5,9,[(1,.pl (.one (.v (.list false 1 (List.map (rK .i64) parents))))),(2,.pl (.one (.v (.sc (.string note))))),(3,.pl (.one (.v (.list false 4 (List.map (zE false) changes))))),(4,.pl (.one (.ref 5 []))),(8,.pl (.one (.ref 6 []))),(14,.pl (.one (.ref 7 []))),(18,.pl (.one (.ref 8 []))),(19,.pl (.one (.v (.sc (.int .i64 id))))),(23,.pl (.one (.v (.sc (.int .i64 x178.2.1)))))],[(5,.box true [.list false 3 (List.map (zA false) s.Commits),.list false 2 (List.map (zB false) s.Files)]),(6,.box true [.list true 3 (List.map (zA true) []),.list true 2 (List.map (zB true) [])]),(7,.box true [.list true 3 (List.map (zD true) p_5),.list true 1 (List.map (rK .i64) b_1.2.2.1),.sc (.int .i64 b_1.2.2.2)]),(8,.box true [.list true 3 (List.map (zA true) x136.Commits),.list true 2 (List.map (zB true) out__2)])]⟩) ?_ ?_
                ·refine go ?_
                 refine sp ?_ ?_
                 ·refine go ?_; intro x_4 v'
                  refine go ?_
                  exact je [1,2,3,4,8,14,18,19,23] [(5,5),(6,6),(7,7),(8,8)] 9 fun h=>⟨_,h,rfl⟩
                 ·refine go ?_; intro l_2 v'
                  refine go ?_
                  exact je [1,2,3,4,8,14,18,19,23] [(5,5),(6,6),(7,7),(8,8)] 9 fun h=>⟨_,h,rfl⟩
                ·rintro e' ⟨out__2,h,rfl⟩; refine tl h ?_; unfold spec_l15Commit_j6
                 refine go ?_; intro x204
                 refine go ?_
                 refine sp ?_ ?_
                 ·refine go ?_; intro x_3 v'
                  refine go ?_
                  exact bk [1,2,3,4,8,14,18,19] [(5,5),(6,6),(7,7),(8,8)] 9 ⟨_,_,_,rfl,rfl⟩
                 ·refine go ?_
                  exact bk [1,2,3,4,8,14,18,19] [(5,5),(6,6),(7,7),(8,8)] 9 ⟨_,_,_,rfl,rfl⟩
            ·refine go ?_
             exact je [1,2,4,8,14,18] [(5,5),(6,6),(7,7),(8,8)] 9 fun h=>⟨_,_,h,rfl⟩
           ·rintro e' ⟨p_4,out_,h,rfl⟩; refine tl h ?_; unfold spec_l15Commit_j4
            refine go ?_
            refine rc [0,3,5,6,1,2,4,7,8,9,10,11,12] ?_
            refine go ?_; intro l v'
            refine fk (appz_f (rK .i64) v') ?_
            refine go ?_; intro l_1 v'
            refine go ?_
            refine rc [1,0,2,3,4,5,6] ?_
            exact gz
instance W_spec_l15Right:∀ c n,Wlk X (spec_l15Right c n) 48 [0] [.one (.box true [.list false 1 (List.map (rK .u8) c.b),.sc (.int .i64 c.i),.sc (.int .i64 c.h)]),.one (.sc (.int .i64 n))] (fun r'=>[.agg [.list false 3 (List.map (zA false) r'.1.Commits),.list false 2 (List.map (zB false) r'.1.Files)]]) (fun r'=>[(0,.box true [.list false 1 (List.map (rK .u8) r'.2.b),.sc (.int .i64 r'.2.i),.sc (.int .i64 r'.2.h)])]):=fun c n=>by
 refine ws f48 40 [.cell 4 27] (h2 t3 (h2 t9 (h2 t24 (h2 t25 (h2 t27 (h2 t37 (h2 qX (h2 zS (h2 R_T_impl_Change (h2 qK (h2 zT (h2 jJ (h2 R_i64 (h2 R_s R_u8)))))))))))))) ?_
 intro r'; unfold spec_l15Right
 refine go ?_
 refine l1 ?_
 refine go ?_
 refine l1 ?_
 refine go ?_
 refine jn (fun e'=>∃ c_1 c_2 c_3 s s_1,spec_l15Right_j1 c_1 c_2 c_3 s s_1=some r'∧e'=⟨40,2,4,[(4,.pl (.one (.ref 2 []))),(5,.pl (.one (.ref 3 [])))],[(0,.box true [.list false 1 (List.map (rK .u8) c_1),.sc (.int .i64 c_2),.sc (.int .i64 c_3)]),(2,.box true [.list true 3 (List.map (zA true) []),.list true 2 (List.map (zB true) [])]),(3,.box true [.list false 3 (List.map (zA false) s),.list false 2 (List.map (zB false) s_1)])]⟩) ?_ ?_
 ·refine go ?_
  refine tI 3 ?_
  refine go ?_
  refine lp (fun s' e'=>∃ i c_4 c_5 c_6 s_2 s_3,s'=(i,c_4,c_5,c_6,s_2,s_3)∧e'=⟨40,2,4,[(0,.pl (.one (.ref 0 []))),(1,.pl (.one (.v (.sc (.int .i64 n))))),(4,.pl (.one (.ref 2 []))),(5,.pl (.one (.ref 3 []))),(6,.pl (.one (.v (.sc (.int .i64 i)))))],[(0,.box true [.list false 1 (List.map (rK .u8) c_4),.sc (.int .i64 c_5),.sc (.int .i64 c_6)]),(2,.box true [.list true 3 (List.map (zA true) []),.list true 2 (List.map (zB true) [])]),(3,.box true [.list false 3 (List.map (zA false) s_2),.list false 2 (List.map (zB false) s_3)])]⟩) [0,1,4,5,6] [(0,0),(2,2),(3,3)] 4 ⟨_,_,_,_,_,_,rfl,rfl⟩ ?_
  rintro s' _ ⟨i,c_4,c_5,c_6,s_2,s_3,rfl,rfl⟩ y1'
  change Tl _ (spec_l15Right_l1 n i c_4 c_5 c_6 s_2 s_3) _ _; unfold spec_l15Right_l1
  refine sq ?_
  refine go ?_
  refine sp ?_ ?_
  ·refine go ?_
   refine sq ?_
   refine go ?_; intro x21
   refine go ?_
   refine tF 4 ?_
   refine rc [1,2,5,7,0,1005,3,4,6,8,9,10,11,12,13,14,15,16,17] ?_
   refine go ?_
   refine gm ?_
   refine go ?_; intro x27
   refine go ?_; intro x31
   refine go ?_; intro x32
   refine go ?_
   refine sp ?_ ?_
   ·refine go ?_
    refine kI 3 ?_
    exact bk [0,1,4,5,6] [(0,0),(2,2),(3,3)] 4 ⟨_,_,_,_,_,_,rfl,rfl⟩
   ·refine go ?_
    exact bk [0,1,4,5,6] [(0,0),(2,2),(3,3)] 4 ⟨_,_,_,_,_,_,rfl,rfl⟩
  ·refine go ?_
   exact je [4,5] [(0,0),(2,2),(3,3)] 4 fun h=>⟨_,_,_,_,_,h,rfl⟩
 ·rintro e' ⟨c_1,c_2,c_3,s,s_1,h,rfl⟩; refine tl h ?_; unfold spec_l15Right_j1
  exact gz
instance W_spec_DrawRightStore:∀ code,Wlk X (spec_DrawRightStore code) 10 [] [.one (.list false 1 (List.map (rK .u8) code))] (fun r'=>[.agg [.list false 3 (List.map (zA false) r'.Commits),.list false 2 (List.map (zB false) r'.Files)]]) (fun r'=>[]):=fun code=>by
 refine ws f10 13 [.cell 2 27] (h2 t3 (h2 t27 (h2 qX (h2 zS (h2 qK (h2 zT (h2 jJ (h2 R_i64 R_u8)))))))) ?_
 intro r'; unfold spec_DrawRightStore
 refine go ?_
 refine l1 ?_
 refine go ?_; intro x5
 refine go ?_; intro x9
 refine go ?_; intro x10
 refine go ?_; intro x12
 exact gz
instance W_impl_inRange:∀ n least most,Wlk X (impl_inRange n least most) 181 [] [.one (.sc (.int .i64 n)),.one (.sc (.int .i64 least)),.one (.sc (.int .i64 most))] (fun r'=>[.one (.sc (.bool r'))]) (fun r'=>[]):=fun n least most=>by
 refine ws f181 15 [.tmp 6] t3 ?_
 intro r'; unfold impl_inRange
 refine go ?_
 refine gc 4 (fun b e'=>e'=⟨15,3,3,[(14,.pl (.one (.v (.sc (.bool b)))))],[]⟩) ?_ ?_
 ·intro p
  refine qT ?_ ?_
  ·refine go ?_
   exact ge [14] [] 3 rfl
  ·refine go ?_
   exact ge [14] [] 3 rfl
 ·rintro b _ rfl
  exact gz
instance W_impl_ascends:∀ list_ below,Wlk X (impl_ascends list_ below) 178 [] [.one (.list false 1 (List.map (rK .i64) list_)),.one (.sc (.int .i64 below))] (fun r'=>[.one (.sc (.bool r'))]) (fun r'=>[]):=fun list_ below=>by
 refine ws f178 33 [.tmp 4] (h2 t3 (h2 t40 R_i64)) ?_
 intro r'; unfold impl_ascends
 refine go ?_
 refine jn (fun e'=>impl_ascends_j1=some r'∧e'=⟨33,2,2,[],[]⟩) ?_ ?_
 ·refine go ?_
  refine lp (fun x9 e'=>e'=⟨33,2,2,[(0,.pl (.one (.v (.list false 1 (List.map (rK .i64) list_))))),(1,.pl (.one (.v (.sc (.int .i64 below))))),(7,.pl (.one (.v (.list false 1 (List.map (rK .i64) list_))))),(8,.pl (.one (.v (.sc (.int .i64 (list_.length:Int)))))),(9,.pl (.one (.v (.sc (.int .i64 x9)))))],[]⟩) [0,1,7,8,9] [] 2 rfl ?_
  rintro x9 _ rfl y1'
  change Tl _ (jR list_ below x9) _ _; unfold jR
  refine go ?_
  refine sq ?_
  refine go ?_
  refine sp ?_ ?_
  ·refine go ?_
   refine sq ?_
   refine go ?_; intro x v'
   refine go ?_; intro x17
   refine go ?_
   refine gc 12 (fun b e'=>e'=⟨33,2,2,[(0,.pl (.one (.v (.list false 1 (List.map (rK .i64) list_))))),(1,.pl (.one (.v (.sc (.int .i64 below))))),(7,.pl (.one (.v (.list false 1 (List.map (rK .i64) list_))))),(8,.pl (.one (.v (.sc (.int .i64 (list_.length:Int)))))),(9,.pl (.one (.v (.sc (.int .i64 x9))))),(31,.pl (.one (.v (.sc (.bool b)))))],[]⟩) ?_ ?_
   ·intro p
    refine zY ?_ ?_
    ·refine go ?_
     exact ge [0,1,7,8,9,31] [] 2 rfl
    ·refine go ?_
     refine gc 8 (fun b_1 e'=>e'=⟨33,2,2,[(0,.pl (.one (.v (.list false 1 (List.map (rK .i64) list_))))),(1,.pl (.one (.v (.sc (.int .i64 below))))),(7,.pl (.one (.v (.list false 1 (List.map (rK .i64) list_))))),(8,.pl (.one (.v (.sc (.int .i64 (list_.length:Int)))))),(9,.pl (.one (.v (.sc (.int .i64 x9))))),(19,.pl (.one (.v (.sc (.bool false))))),(20,.pl (.one (.v (.sc (.int .i64 x9))))),(21,.pl (.one (.v (.sc (.bool (decide (x9 > 0))))))),(30,.pl (.one (.v (.sc (.bool b_1)))))],[]⟩) ?_ ?_
     ·intro p
      refine qT ?_ ?_
      ·refine go ?_; intro x_1 v'
       refine go ?_
       exact ge [0,1,7,8,9,19,20,21,30] [] 2 rfl
      ·refine go ?_
       exact ge [0,1,7,8,9,19,20,21,30] [] 2 rfl
     ·rintro b_1 _ rfl
      refine go ?_
      exact ge [0,1,7,8,9,31] [] 2 rfl
   ·rintro b _ rfl
    refine go ?_
    refine sp ?_ ?_
    ·exact gz
    ·refine go ?_
     exact bk [0,1,7,8,9] [] 2 rfl
  ·refine go ?_
   exact je [] [] 2 fun h=>⟨h,rfl⟩
 ·rintro e' ⟨h,rfl⟩; refine tl h ?_; unfold impl_ascends_j1
  exact gz
instance W_impl_GraphOk:∀ parents,Wlk X (impl_GraphOk parents) 79 [] [.one (.list false 1 (List.map (rL false 1 (rK .i64)) parents))] (fun r'=>[.one (.sc (.bool r'))]) (fun r'=>[]):=fun parents=>by
 refine ws f79 25 [.tmp 2] (h2 t3 (h2 t33 (h2 t40 (h2 qX R_i64)))) ?_
 intro r'; unfold impl_GraphOk
 refine go ?_
 refine jn (fun e'=>impl_GraphOk_j1 parents=some r'∧e'=⟨25,1,1,[(0,.pl (.one (.v (.list false 1 (List.map (rL false 1 (rK .i64)) parents)))))],[]⟩) ?_ ?_
 ·refine go ?_
  refine lp (fun x7 e'=>e'=⟨25,1,1,[(0,.pl (.one (.v (.list false 1 (List.map (rL false 1 (rK .i64)) parents))))),(5,.pl (.one (.v (.list false 1 (List.map (rL false 1 (rK .i64)) parents))))),(6,.pl (.one (.v (.sc (.int .i64 (parents.length:Int)))))),(7,.pl (.one (.v (.sc (.int .i64 x7)))))],[]⟩) [0,5,6,7] [] 1 rfl ?_
  rintro x7 _ rfl y1'
  change Tl _ (jT parents x7) _ _; unfold jT
  refine go ?_
  refine sq ?_
  refine go ?_
  refine sp ?_ ?_
  ·refine go ?_
   refine sq ?_
   refine go ?_; intro x v'
   refine go ?_
   refine gc 5 (fun b e'=>e'=⟨25,1,1,[(0,.pl (.one (.v (.list false 1 (List.map (rL false 1 (rK .i64)) parents))))),(5,.pl (.one (.v (.list false 1 (List.map (rL false 1 (rK .i64)) parents))))),(6,.pl (.one (.v (.sc (.int .i64 (parents.length:Int)))))),(7,.pl (.one (.v (.sc (.int .i64 x7))))),(20,.pl (.one (.v (.sc (.bool b)))))],[]⟩) ?_ ?_
   ·intro p
    refine zY ?_ ?_
    ·refine go ?_
     exact ge [0,5,6,7,20] [] 1 rfl
    ·refine go ?_; intro x18
     refine go ?_
     exact ge [0,5,6,7,20] [] 1 rfl
   ·rintro b _ rfl
    refine go ?_
    refine sp ?_ ?_
    ·exact gz
    ·refine go ?_
     exact bk [0,5,6,7] [] 1 rfl
  ·refine go ?_
   exact je [0] [] 1 fun h=>⟨h,rfl⟩
 ·rintro e' ⟨h,rfl⟩; refine tl h ?_; unfold impl_GraphOk_j1
  exact gz
instance W_impl_unionOf:∀ closed list_,Wlk X (impl_unionOf closed list_) 185 [] [.one (.list false 1 (List.map (rK .u64) closed)),.one (.list false 1 (List.map (rK .i64) list_))] (fun r'=>[.one (.sc (.int .u64 r'))]) (fun r'=>[]):=fun closed list_=>by
 refine ws f185 22 [.tmp 4] (h2 t3 (h2 t40 (h2 t136 (h2 t137 (h2 R_i64 R_u64))))) ?_
 intro r'; unfold impl_unionOf
 refine go ?_
 refine jn (fun e'=>∃ s,impl_unionOf_j1 s=some r'∧e'=⟨22,2,2,[(5,.pl (.one (.v (.sc (.int .u64 s)))))],[]⟩) ?_ ?_
 ·refine go ?_
  refine lp (fun s' e'=>∃ s_1 x10,s'=(s_1,x10)∧e'=⟨22,2,2,[(0,.pl (.one (.v (.list false 1 (List.map (rK .u64) closed))))),(5,.pl (.one (.v (.sc (.int .u64 s_1))))),(8,.pl (.one (.v (.list false 1 (List.map (rK .i64) list_))))),(9,.pl (.one (.v (.sc (.int .i64 (list_.length:Int)))))),(10,.pl (.one (.v (.sc (.int .i64 x10)))))],[]⟩) [0,5,8,9,10] [] 2 ⟨_,_,rfl,rfl⟩ ?_
  rintro s' _ ⟨s_1,x10,rfl,rfl⟩ y1'
  change Tl _ (impl_unionOf_l1 closed list_ s_1 x10) _ _; unfold impl_unionOf_l1
  refine go ?_
  refine sq ?_
  refine go ?_
  refine sp ?_ ?_
  ·refine go ?_
   refine sq ?_
   refine go ?_; intro x v'
   refine go ?_; intro x_1 v'
   refine go ?_
   exact bk [0,5,8,9,10] [] 2 ⟨_,_,rfl,rfl⟩
  ·refine go ?_
   exact je [5] [] 2 fun h=>⟨_,h,rfl⟩
 ·rintro e' ⟨s,h,rfl⟩; refine tl h ?_; unfold impl_unionOf_j1
  exact gz
instance W_impl_closures:∀ parents,Wlk X (impl_closures parents) 88 [] [.one (.list false 1 (List.map (rL false 1 (rK .i64)) parents))] (fun r'=>[.one (.list true 1 (List.map (rK .u64) r'))]) (fun r'=>[]):=fun parents=>by
 refine ws f88 28 [.tmp 2] (h2 t3 (h2 t33 (h2 t40 (h2 t136 (h2 t137 (h2 t239 (h2 qX (h2 R_i64 R_u64)))))))) ?_
 intro r'; unfold impl_closures
 refine go ?_
 refine l1 ?_
 refine go ?_; intro x8 v'
 refine go ?_
 refine jn (fun e'=>∃ out_,impl_closures_j1 out_=some r'∧e'=⟨28,1,2,[(3,.pl (.one (.ref 1 [])))],[(1,.list true 1 (List.map (rK .u64) out_))]⟩) ?_ ?_
 ·refine go ?_
  refine lp (fun s' e'=>∃ x11 out__1,s'=(x11,out__1)∧e'=⟨28,1,2,[(3,.pl (.one (.ref 1 []))),(9,.pl (.one (.v (.list false 1 (List.map (rL false 1 (rK .i64)) parents))))),(10,.pl (.one (.v (.sc (.int .i64 (parents.length:Int)))))),(11,.pl (.one (.v (.sc (.int .i64 x11)))))],[(1,.list true 1 (List.map (rK .u64) out__1))]⟩) [3,9,10,11] [(2,1)] 2 ⟨_,_,rfl,rfl⟩ ?_
  rintro s' _ ⟨x11,out__1,rfl,rfl⟩ y1'
  change Tl _ (impl_closures_l1 parents x11 out__1) _ _; unfold impl_closures_l1
  refine go ?_
  refine sq ?_
  refine go ?_
  refine sp ?_ ?_
  ·refine go ?_
   refine sq ?_
   refine go ?_; intro x v'
   refine go ?_; intro x20
   refine go ?_; intro u v'
   refine go ?_; intro x_1 v'
   refine go ?_
   exact bk [3,9,10,11] [(1,1)] 2 ⟨_,_,rfl,rfl⟩
  ·refine go ?_
   exact je [3] [(1,1)] 2 fun h=>⟨_,h,rfl⟩
 ·rintro e' ⟨out_,h,rfl⟩; refine tl h ?_; unfold impl_closures_j1
  exact gz
end Go.TV.KFnStats
