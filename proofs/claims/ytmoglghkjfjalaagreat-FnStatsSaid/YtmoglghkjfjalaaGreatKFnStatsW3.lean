/- Walks. -/
import Derived.Test.YtmoglghkjfjalaaGreatKFnStatsE
import Derived.Test.YtmoglghkjfjalaaGreatKFnStatsW0
import Derived.Test.YtmoglghkjfjalaaGreatKFnStatsW1
import Derived.Test.YtmoglghkjfjalaaGreatKFnStatsW2
set_option linter.unusedVariables false
set_option linter.unusedSimpArgs false
set_option maxHeartbeats 8000000
set_option maxRecDepth 100000
namespace Go.TV.KFnStats
attribute [local irreducible] wpV opsV Does thenV blockV RetL quV seqV Cy lpP cutP cutQ
open Go.Proofs.Tryz Go.TV.F
instance W_impl_unlike:∀ a b id,Wlk X (impl_unlike a b id) 157 [] [.agg [.list false 1 (List.map (rK .i64) a.Parents),.sc (.string a.Note),.list false 3 (List.map (zD true) a.Names)],.agg [.list false 1 (List.map (rK .i64) b.Parents),.sc (.string b.Note),.list false 3 (List.map (zD true) b.Names)],.one (.sc (.int .i64 id))] (fun r'=>[.one (.sc (.bool r'))]) (fun r'=>[]):=fun a b id=>by
 refine ws f157 40 [.tmp 6] (h2 t3 (h2 t9 (h2 t41 (h2 t43 (h2 t45 (h2 zT R_i64)))))) ?_
 intro r'; unfold impl_unlike
 refine go ?_
 refine rq ?_
 refine go ?_; intro x12
 refine go ?_; intro x16
 refine go ?_
 refine sq ?_
 refine go ?_
 refine gc 3 (fun b_1 e'=>e'=⟨40,7,9,[(3,.pl (.one (.ref 7 []))),(4,.pl (.one (.ref 8 []))),(7,.pl (.one (.v (.sc (.int .i64 x12))))),(8,.pl (.one (.v (.sc (.int .i64 x16))))),(22,.pl (.one (.v (.sc (.bool b_1)))))],[(7,.box true [.list false 1 (List.map (rK .i64) a.Parents),.sc (.string a.Note),.list false 3 (List.map (zD true) a.Names)]),(8,.box true [.list false 1 (List.map (rK .i64) b.Parents),.sc (.string b.Note),.list false 3 (List.map (zD true) b.Names)])]⟩) ?_ ?_
 ·intro p
  refine zY ?_ ?_
  ·refine go ?_
   exact ge [3,4,7,8,22] [(7,7),(8,8)] 9 rfl
  ·refine go ?_
   exact ge [3,4,7,8,22] [(7,7),(8,8)] 9 rfl
 ·rintro b_1 _ rfl
  refine go ?_
  refine sp ?_ ?_
  ·refine go ?_
   refine gc 3 (fun b_2 e'=>e'=⟨40,7,7,[(28,.pl (.one (.v (.sc (.bool b_2)))))],[]⟩) ?_ ?_
   ·intro p
    refine zY ?_ ?_
    ·refine go ?_
     exact ge [28] [] 7 rfl
    ·refine go ?_
     exact ge [28] [] 7 rfl
   ·rintro b_2 _ rfl
    exact gz
  ·refine go ?_
   refine rq ?_
   refine go ?_; intro x v'
   refine go ?_; intro x_1 v'
   refine go ?_
   refine lf ?_ (fun a g=>quV_cmp a (by kernel_rfl) g)
   exact gz
instance W_impl_touched:∀ list_ c,Wlk X (impl_touched list_ c) 61 [] [.one (.list false 3 (List.map (zA false) list_)),.one (.sc (.int .i64 c))] (fun r'=>[.one (.list true 1 (List.map (rK .i64) r'))]) (fun r'=>[]):=fun list_ c=>by
 refine ws f61 61 [.tmp 4] (h2 t3 (h2 t24 (h2 t40 (h2 t41 (h2 t43 (h2 qK (h2 zT R_i64))))))) ?_
 intro r'; unfold impl_touched
 refine go ?_
 refine l1 ?_
 refine go ?_
 refine l1 ?_
 refine go ?_
 refine jn (fun e'=>∃ out_,impl_touched_j1 out_=some r'∧e'=⟨61,2,3,[(5,.pl (.one (.ref 2 [])))],[(2,.list true 1 (List.map (rK .i64) out_))]⟩) ?_ ?_
 ·refine go ?_
  refine lp (fun s' e'=>∃ x10 out__1,s'=(x10,out__1)∧e'=⟨61,2,3,[(0,.pl (.one (.v (.list false 3 (List.map (zA false) list_))))),(1,.pl (.one (.v (.sc (.int .i64 c))))),(5,.pl (.one (.ref 2 []))),(10,.pl (.one (.v (.sc (.int .i64 x10)))))],[(2,.list true 1 (List.map (rK .i64) out__1))]⟩) [0,1,5,10] [(3,2)] 3 ⟨_,_,rfl,rfl⟩ ?_
  rintro s' _ ⟨x10,out__1,rfl,rfl⟩ y1'
  change Tl _ (impl_touched_l1 list_ c x10 out__1) _ _; unfold impl_touched_l1
  refine go ?_
  refine sq ?_
  refine go ?_
  refine sp ?_ ?_
  ·refine go ?_
   refine jn (fun e'=>∃ out__2,impl_touched_j2 x10 out__2=some y1'∧e'=⟨61,2,3,[(0,.pl (.one (.v (.list false 3 (List.map (zA false) list_))))),(1,.pl (.one (.v (.sc (.int .i64 c))))),(5,.pl (.one (.ref 2 []))),(10,.pl (.one (.v (.sc (.int .i64 x10)))))],[(2,.list true 1 (List.map (rK .i64) out__2))]⟩) ?_ ?_
   ·refine go ?_; intro x v'
    refine go ?_
    refine gc 9 (fun b e'=>e'=⟨61,2,3,[(0,.pl (.one (.v (.list false 3 (List.map (zA false) list_))))),(1,.pl (.one (.v (.sc (.int .i64 c))))),(5,.pl (.one (.ref 2 []))),(6,.pl (.one (.v (.sc (.int .i64 x10))))),(10,.pl (.one (.v (.sc (.int .i64 x10))))),(29,.pl (.one (.v (.sc (.bool b)))))],[(2,.list true 1 (List.map (rK .i64) out__1))]⟩) ?_ ?_
    ·intro p
     refine qT ?_ ?_
     ·refine go ?_; intro x27
      refine go ?_
      exact ge [0,1,5,6,10,29] [(2,2)] 3 rfl
     ·refine go ?_
      exact ge [0,1,5,6,10,29] [(2,2)] 3 rfl
    ·rintro b _ rfl
     refine go ?_
     refine jn (fun e'=>∃ is,impl_touched_j3 x10 out__1 is=some y1'∧e'=⟨61,2,3,[(0,.pl (.one (.v (.list false 3 (List.map (zA false) list_))))),(1,.pl (.one (.v (.sc (.int .i64 c))))),(5,.pl (.one (.ref 2 []))),(6,.pl (.one (.v (.sc (.int .i64 x10))))),(7,.pl (.one (.v (.sc (.bool is))))),(10,.pl (.one (.v (.sc (.int .i64 x10)))))],[(2,.list true 1 (List.map (rK .i64) out__1))]⟩) ?_ ?_
     ·refine go ?_; intro x_1 v'
      refine go ?_
      refine lp (fun s' e'=>∃ is_1 x36,s'=(is_1,x36)∧e'=⟨61,2,3,[(0,.pl (.one (.v (.list false 3 (List.map (zA false) list_))))),(1,.pl (.one (.v (.sc (.int .i64 c))))),(5,.pl (.one (.ref 2 []))),(6,.pl (.one (.v (.sc (.int .i64 x10))))),(7,.pl (.one (.v (.sc (.bool is_1))))),(10,.pl (.one (.v (.sc (.int .i64 x10))))),(34,.pl (.one (.v (.list false 1 (List.map (rK .i64) x_1.Parents))))),(35,.pl (.one (.v (.sc (.int .i64 (x_1.Parents.length:Int)))))),(36,.pl (.one (.v (.sc (.int .i64 x36)))))],[(2,.list true 1 (List.map (rK .i64) out__1))]⟩) [0,1,5,6,7,10,34,35,36] [(2,2)] 3 ⟨_,_,rfl,rfl⟩ ?_
      rintro s' _ ⟨is_1,x36,rfl,rfl⟩ y2'
      change Tl _ (impl_touched_l2 list_ c x10 x_1 is_1 x36) _ _; unfold impl_touched_l2
      refine go ?_
      refine sq ?_
      refine go ?_
      refine sp ?_ ?_
      ·refine go ?_
       refine sq ?_
       refine go ?_; intro x_2 v'
       refine go ?_
       refine rq ?_
       refine go ?_
       refine qc 11 (fun b_1 e'=>e'=⟨61,2,3,[(0,.pl (.one (.v (.list false 3 (List.map (zA false) list_))))),(1,.pl (.one (.v (.sc (.int .i64 c))))),(5,.pl (.one (.ref 2 []))),(6,.pl (.one (.v (.sc (.int .i64 x10))))),(10,.pl (.one (.v (.sc (.int .i64 x10))))),(34,.pl (.one (.v (.list false 1 (List.map (rK .i64) x_1.Parents))))),(35,.pl (.one (.v (.sc (.int .i64 (x_1.Parents.length:Int)))))),(36,.pl (.one (.v (.sc (.int .i64 x36))))),(52,.pl (.one (.v (.sc (.bool b_1)))))],[(2,.list true 1 (List.map (rK .i64) out__1))]⟩) ?_ ?_
       ·intro p
        refine quV_spR ?_ ?_
        ·refine go ?_
         exact ge [0,1,5,6,10,34,35,36,52] [(2,2)] 3 rfl
        ·refine go ?_; intro x_3 v'
         refine go ?_; intro x_4 v'
         refine go ?_; intro x51
         refine go ?_
         exact ge [0,1,5,6,10,34,35,36,52] [(2,2)] 3 rfl
       ·rintro b_1 _ rfl
        refine go ?_
        exact bk [0,1,5,6,7,10,34,35,36] [(2,2)] 3 ⟨_,_,rfl,rfl⟩
      ·refine go ?_
       exact je [0,1,5,6,7,10] [(2,2)] 3 fun h=>⟨_,h,rfl⟩
     ·rintro e' ⟨is,h,rfl⟩; refine tl h ?_; unfold impl_touched_j3
      refine go ?_
      refine sp ?_ ?_
      ·refine go ?_; intro l v'
       refine go ?_
       exact je [0,1,5,10] [(2,2)] 3 fun h=>⟨_,h,rfl⟩
      ·refine go ?_
       exact je [0,1,5,10] [(2,2)] 3 fun h=>⟨_,h,rfl⟩
   ·rintro e' ⟨out__2,h,rfl⟩; refine tl h ?_; unfold impl_touched_j2
    refine go ?_
    exact bk [0,1,5,10] [(2,2)] 3 ⟨_,_,rfl,rfl⟩
  ·refine go ?_
   exact je [5] [(2,2)] 3 fun h=>⟨_,h,rfl⟩
 ·rintro e' ⟨out_,h,rfl⟩; refine tl h ?_; unfold impl_touched_j1
  exact gz
instance W_slices_Index_int_int:∀ s v,Wlk X (slices_Index_int_int s v) 155 [] [.one (.list false 1 (List.map (rK .i64) s)),.one (.sc (.int .i64 v))] (fun r'=>[.one (.sc (.int .i64 r'))]) (fun r'=>[]):=fun s v=>by
 refine ws f155 19 [.tmp 4] (h2 t3 (h2 t40 R_i64)) ?_
 intro r'; unfold slices_Index_int_int
 refine go ?_
 refine jn (fun e'=>slices_Index_int_int_j1=some r'∧e'=⟨19,2,2,[],[]⟩) ?_ ?_
 ·refine go ?_
  refine lp (fun x8 e'=>e'=⟨19,2,2,[(0,.pl (.one (.v (.list false 1 (List.map (rK .i64) s))))),(1,.pl (.one (.v (.sc (.int .i64 v))))),(7,.pl (.one (.v (.sc (.int .i64 (s.length:Int)))))),(8,.pl (.one (.v (.sc (.int .i64 x8)))))],[]⟩) [0,1,7,8] [] 2 rfl ?_
  rintro x8 _ rfl y1'
  change Tl _ (slices_Index_int_int_l1 s v x8) _ _; unfold slices_Index_int_int_l1
  refine go ?_
  refine sq ?_
  refine go ?_
  refine sp ?_ ?_
  ·refine go ?_
   refine sq ?_
   refine go ?_; intro x v'
   refine go ?_
   refine sp ?_ ?_
   ·exact gz
   ·refine go ?_
    exact bk [0,1,7,8] [] 2 rfl
  ·refine go ?_
   exact je [] [] 2 fun h=>⟨h,rfl⟩
 ·rintro e' ⟨h,rfl⟩; refine tl h ?_; unfold slices_Index_int_int_j1
  exact gz
instance W_slices_Contains_int_int:∀ s v,Wlk X (slices_Contains_int_int s v) 60 [] [.one (.list false 1 (List.map (rK .i64) s)),.one (.sc (.int .i64 v))] (fun r'=>[.one (.sc (.bool r'))]) (fun r'=>[]):=fun s v=>by
 refine ws f60 9 [.tmp 4] (h2 t3 R_i64) ?_
 intro r'; unfold slices_Contains_int_int
 refine go ?_; intro x7
 exact gz
instance W_impl_FileLog:∀ s path c,Wlk X (impl_FileLog s path c) 13 [] [.agg [.list false 3 (List.map (zA false) s.Commits),.list false 2 (List.map (zB false) s.Files)],.one (.sc (.string path)),.one (.sc (.int .i64 c))] (fun r'=>[.one (.list true 1 (List.map (rK .i64) r'.1)),.one (.sc (.int .i64 r'.2))]) (fun r'=>[]):=fun s path c=>by
 refine ws f13 47 [.tmp 6,.tmp 7] (h2 t3 (h2 t24 (h2 t27 (h2 t40 (h2 t45 (h2 R_LLi64 (h2 qX (h2 zS (h2 qK (h2 zT (h2 jJ R_i64))))))))))) ?_
 intro r'; unfold impl_FileLog
 refine go ?_
 refine l1 ?_
 refine go ?_; intro x17
 refine go ?_
 refine l1 ?_
 refine go ?_
 refine sq ?_
 refine go ?_
 refine sp ?_ ?_
 ·refine go ?_
  refine l1 ?_
  exact gz
 ·refine go ?_
  refine l1 ?_
  refine go ?_
  refine jn (fun e'=>∃ out_,impl_FileLog_j1 out_=some r'∧e'=⟨47,4,5,[(10,.pl (.one (.ref 4 [])))],[(4,.list true 1 (List.map (rK .i64) out_))]⟩) ?_ ?_
  ·refine go ?_
   refine tF 4 ?_
   refine rc [0,4,7,1,2,3,5,6] ?_
   refine go ?_; intro x25
   refine go ?_; intro x26
   refine go ?_; intro x28
   refine go ?_
   refine lp (fun s' e'=>∃ x30 out__1,s'=(x30,out__1)∧e'=⟨47,4,7,[(3,.pl (.one (.v (.box false [.list false 3 (List.map (zA false) s.Commits),.list false 2 (List.map (zB false) s.Files)])))),(8,.pl (.one (.ref 4 []))),(10,.pl (.one (.ref 5 []))),(28,.pl (.one (.ref 6 []))),(29,.pl (.one (.v (.sc (.int .i64 (x28.length:Int)))))),(30,.pl (.one (.v (.sc (.int .i64 x30)))))],[(4,.box true [.sc (.string x17.1.Path),.sc (.int .i64 x17.1.Id),.sc (.int .i64 x17.1.Version)]),(5,.list true 1 (List.map (rK .i64) out__1)),(6,.list true 1 (List.map (rK .i64) x28))]⟩) [3,8,10,28,29,30] [(10,4),(11,5),(14,6)] 7 ⟨_,_,rfl,rfl⟩ ?_
   rintro s' _ ⟨x30,out__1,rfl,rfl⟩ y1'
   change Tl _ (impl_FileLog_l1 s x17 x28 x30 out__1) _ _; unfold impl_FileLog_l1
   refine go ?_
   refine sq ?_
   refine go ?_
   refine sp ?_ ?_
   ·refine go ?_
    refine sq ?_
    refine go ?_; intro x v'
    refine go ?_
    refine rc [0,2,4,1,3,5,6] ?_
    refine go ?_; intro x37
    refine go ?_; intro x40
    refine go ?_
    refine sp ?_ ?_
    ·refine go ?_; intro l v'
     refine go ?_
     exact bk [3,8,10,28,29,30] [(4,4),(5,5),(6,6)] 7 ⟨_,_,rfl,rfl⟩
    ·refine go ?_
     exact bk [3,8,10,28,29,30] [(4,4),(5,5),(6,6)] 7 ⟨_,_,rfl,rfl⟩
   ·refine go ?_
    exact je [10] [(5,4)] 5 fun h=>⟨_,h,rfl⟩
  ·rintro e' ⟨out_,h,rfl⟩; refine tl h ?_; unfold impl_FileLog_j1
   exact gz
instance W_laws_FnStats:∀ code,Wlk X (laws_FnStats code) 3 [] [.one (.list false 1 (List.map (rK .u8) code))] (fun r'=>[.one (.sc (.bool r'))]) (fun r'=>[]):=fun code=>by
 refine ws f3 189 [.tmp 2] (h2 t3 (h2 t9 (h2 t24 (h2 t25 (h2 t27 (h2 t30 (h2 t33 (h2 t34 (h2 t36 (h2 t37 (h2 t40 (h2 t41 (h2 t43 (h2 t45 (h2 qX (h2 zS (h2 qK (h2 zT (h2 jJ (h2 R_i64 (h2 R_s R_u8))))))))))))))))))))) ?_
 intro r'; unfold laws_FnStats
 refine go ?_
 refine sq ?_
 refine go ?_; intro x20
 refine go ?_
 refine sp ?_ ?_
 ·exact gz
 ·refine go ?_; intro x22
  refine go ?_
  refine l1 ?_
  refine go ?_; intro x25
  refine go ?_
  refine l1 ?_
  refine go ?_
  refine jn (fun e'=>∃ bodies versions whole,laws_FnStats_j1 x22 x25 bodies versions whole=some r'∧e'=⟨189,1,3,[(3,.pl (.one (.ref 1 []))),(4,.pl (.one (.ref 2 []))),(5,.pl (.one (.v (.sc (.bool x25.2))))),(6,.pl (.one (.v (.sc (.int .i64 bodies))))),(7,.pl (.one (.v (.sc (.int .i64 versions))))),(8,.pl (.one (.v (.sc (.int .i64 whole)))))],[(1,.box true [.list false 3 (List.map (zA false) x22.Commits),.list false 2 (List.map (zB false) x22.Files)]),(2,.box true [.sc (.int .i64 x25.1.Commits),.sc (.int .i64 x25.1.Files),.sc (.int .i64 x25.1.Versions),.sc (.int .i64 x25.1.Bodies),.sc (.int .i64 x25.1.Whole),.sc (.int .i64 x25.1.Bytes)])]⟩) ?_ ?_
  ·refine go ?_
   refine lp (fun s' e'=>∃ bodies_1 versions_1 whole_1 i_1,s'=(bodies_1,versions_1,whole_1,i_1)∧e'=⟨189,1,3,[(3,.pl (.one (.ref 1 []))),(4,.pl (.one (.ref 2 []))),(5,.pl (.one (.v (.sc (.bool x25.2))))),(6,.pl (.one (.v (.sc (.int .i64 bodies_1))))),(7,.pl (.one (.v (.sc (.int .i64 versions_1))))),(8,.pl (.one (.v (.sc (.int .i64 whole_1))))),(9,.pl (.one (.v (.sc (.int .i64 i_1)))))],[(1,.box true [.list false 3 (List.map (zA false) x22.Commits),.list false 2 (List.map (zB false) x22.Files)]),(2,.box true [.sc (.int .i64 x25.1.Commits),.sc (.int .i64 x25.1.Files),.sc (.int .i64 x25.1.Versions),.sc (.int .i64 x25.1.Bodies),.sc (.int .i64 x25.1.Whole),.sc (.int .i64 x25.1.Bytes)])]⟩) [3,4,5,6,7,8,9] [(4,1),(12,2)] 3 ⟨_,_,_,_,rfl,rfl⟩ ?_
   rintro s' _ ⟨bodies_1,versions_1,whole_1,i_1,rfl,rfl⟩ y1'
   change Tl _ (laws_FnStats_l4 x22 bodies_1 versions_1 whole_1 i_1) _ _; unfold laws_FnStats_l4
   refine sq ?_
   refine go ?_
   refine sp ?_ ?_
   ·refine go ?_
    refine jn (fun e'=>∃ bodies_2 versions_2 whole_2,laws_FnStats_j5 i_1 bodies_2 versions_2 whole_2=some y1'∧e'=⟨189,1,3,[(3,.pl (.one (.ref 1 []))),(4,.pl (.one (.ref 2 []))),(5,.pl (.one (.v (.sc (.bool x25.2))))),(6,.pl (.one (.v (.sc (.int .i64 bodies_2))))),(7,.pl (.one (.v (.sc (.int .i64 versions_2))))),(8,.pl (.one (.v (.sc (.int .i64 whole_2))))),(9,.pl (.one (.v (.sc (.int .i64 i_1)))))],[(1,.box true [.list false 3 (List.map (zA false) x22.Commits),.list false 2 (List.map (zB false) x22.Files)]),(2,.box true [.sc (.int .i64 x25.1.Commits),.sc (.int .i64 x25.1.Files),.sc (.int .i64 x25.1.Versions),.sc (.int .i64 x25.1.Bodies),.sc (.int .i64 x25.1.Whole),.sc (.int .i64 x25.1.Bytes)])]⟩) ?_ ?_
    ·refine go ?_; intro x_5 v'
     refine go ?_
     refine lp (fun s' e'=>∃ whole_3 v,s'=(whole_3,v)∧e'=⟨189,1,3,[(3,.pl (.one (.ref 1 []))),(4,.pl (.one (.ref 2 []))),(5,.pl (.one (.v (.sc (.bool x25.2))))),(6,.pl (.one (.v (.sc (.int .i64 (wk .i64 (bodies_1+(x_5.Bodies.length:Int)))))))),(7,.pl (.one (.v (.sc (.int .i64 (wk .i64 (versions_1+(x_5.Parents.length:Int)))))))),(8,.pl (.one (.v (.sc (.int .i64 whole_3))))),(9,.pl (.one (.v (.sc (.int .i64 i_1))))),(10,.pl (.one (.v (.sc (.int .i64 v)))))],[(1,.box true [.list false 3 (List.map (zA false) x22.Commits),.list false 2 (List.map (zB false) x22.Files)]),(2,.box true [.sc (.int .i64 x25.1.Commits),.sc (.int .i64 x25.1.Files),.sc (.int .i64 x25.1.Versions),.sc (.int .i64 x25.1.Bodies),.sc (.int .i64 x25.1.Whole),.sc (.int .i64 x25.1.Bytes)])]⟩) [3,4,5,6,7,8,9,10] [(1,1),(2,2)] 3 ⟨_,_,rfl,rfl⟩ ?_
     rintro s' _ ⟨whole_3,v,rfl,rfl⟩ y2'
     change Tl _ (laws_FnStats_l5 x22 i_1 whole_3 v) _ _; unfold laws_FnStats_l5
     refine sq ?_
     refine go ?_; intro x_6 v'
     refine go ?_
     refine sp ?_ ?_
     ·refine go ?_
      refine sq ?_
      refine go ?_; intro x71
      refine go ?_
      exact bk [3,4,5,6,7,8,9,10] [(1,1),(2,2)] 3 ⟨_,_,rfl,rfl⟩
     ·refine go ?_
      exact je [3,4,5,6,7,8,9] [(1,1),(2,2)] 3 fun h=>⟨_,_,_,h,rfl⟩
    ·rintro e' ⟨bodies_2,versions_2,whole_2,h,rfl⟩; refine tl h ?_; unfold laws_FnStats_j5
     refine go ?_
     exact bk [3,4,5,6,7,8,9] [(1,1),(2,2)] 3 ⟨_,_,_,_,rfl,rfl⟩
   ·refine go ?_
    exact je [3,4,5,6,7,8] [(1,1),(2,2)] 3 fun h=>⟨_,_,_,h,rfl⟩
  ·rintro e' ⟨bodies,versions,whole,h,rfl⟩; refine tl h ?_; unfold laws_FnStats_j1
   refine sq ?_
   refine go ?_
   refine gc 5 (fun b e'=>e'=⟨189,1,3,[(3,.pl (.one (.ref 1 []))),(4,.pl (.one (.ref 2 []))),(6,.pl (.one (.v (.sc (.int .i64 bodies))))),(7,.pl (.one (.v (.sc (.int .i64 versions))))),(8,.pl (.one (.v (.sc (.int .i64 whole))))),(85,.pl (.one (.v (.sc (.bool b)))))],[(1,.box true [.list false 3 (List.map (zA false) x22.Commits),.list false 2 (List.map (zB false) x22.Files)]),(2,.box true [.sc (.int .i64 x25.1.Commits),.sc (.int .i64 x25.1.Files),.sc (.int .i64 x25.1.Versions),.sc (.int .i64 x25.1.Bodies),.sc (.int .i64 x25.1.Whole),.sc (.int .i64 x25.1.Bytes)])]⟩) ?_ ?_
   ·intro p
    refine zY ?_ ?_
    ·refine go ?_
     exact ge [3,4,6,7,8,85] [(1,1),(2,2)] 3 rfl
    ·refine go ?_
     exact ge [3,4,6,7,8,85] [(1,1),(2,2)] 3 rfl
   ·rintro b _ rfl
    refine go ?_
    refine gc 5 (fun b_1 e'=>e'=⟨189,1,3,[(3,.pl (.one (.ref 1 []))),(4,.pl (.one (.ref 2 []))),(6,.pl (.one (.v (.sc (.int .i64 bodies))))),(8,.pl (.one (.v (.sc (.int .i64 whole))))),(91,.pl (.one (.v (.sc (.bool b_1)))))],[(1,.box true [.list false 3 (List.map (zA false) x22.Commits),.list false 2 (List.map (zB false) x22.Files)]),(2,.box true [.sc (.int .i64 x25.1.Commits),.sc (.int .i64 x25.1.Files),.sc (.int .i64 x25.1.Versions),.sc (.int .i64 x25.1.Bodies),.sc (.int .i64 x25.1.Whole),.sc (.int .i64 x25.1.Bytes)])]⟩) ?_ ?_
    ·intro p
     refine zY ?_ ?_
     ·refine go ?_
      exact ge [3,4,6,8,91] [(1,1),(2,2)] 3 rfl
     ·refine go ?_
      exact ge [3,4,6,8,91] [(1,1),(2,2)] 3 rfl
    ·rintro b_1 _ rfl
     refine go ?_
     refine gc 5 (fun b_2 e'=>e'=⟨189,1,3,[(3,.pl (.one (.ref 1 []))),(4,.pl (.one (.ref 2 []))),(6,.pl (.one (.v (.sc (.int .i64 bodies))))),(8,.pl (.one (.v (.sc (.int .i64 whole))))),(97,.pl (.one (.v (.sc (.bool b_2)))))],[(1,.box true [.list false 3 (List.map (zA false) x22.Commits),.list false 2 (List.map (zB false) x22.Files)]),(2,.box true [.sc (.int .i64 x25.1.Commits),.sc (.int .i64 x25.1.Files),.sc (.int .i64 x25.1.Versions),.sc (.int .i64 x25.1.Bodies),.sc (.int .i64 x25.1.Whole),.sc (.int .i64 x25.1.Bytes)])]⟩) ?_ ?_
     ·intro p
      refine zY ?_ ?_
      ·refine go ?_
       exact ge [3,4,6,8,97] [(1,1),(2,2)] 3 rfl
      ·refine go ?_
       exact ge [3,4,6,8,97] [(1,1),(2,2)] 3 rfl
     ·rintro b_2 _ rfl
      refine go ?_
      refine gc 4 (fun b_3 e'=>e'=⟨189,1,3,[(3,.pl (.one (.ref 1 []))),(4,.pl (.one (.ref 2 []))),(102,.pl (.one (.v (.sc (.bool b_3)))))],[(1,.box true [.list false 3 (List.map (zA false) x22.Commits),.list false 2 (List.map (zB false) x22.Files)]),(2,.box true [.sc (.int .i64 x25.1.Commits),.sc (.int .i64 x25.1.Files),.sc (.int .i64 x25.1.Versions),.sc (.int .i64 x25.1.Bodies),.sc (.int .i64 x25.1.Whole),.sc (.int .i64 x25.1.Bytes)])]⟩) ?_ ?_
      ·intro p
       refine zY ?_ ?_
       ·refine go ?_
        exact ge [3,4,102] [(1,1),(2,2)] 3 rfl
       ·refine go ?_
        exact ge [3,4,102] [(1,1),(2,2)] 3 rfl
      ·rintro b_3 _ rfl
       refine go ?_
       refine gc 7 (fun b_4 e'=>e'=⟨189,1,3,[(3,.pl (.one (.ref 1 []))),(4,.pl (.one (.ref 2 []))),(110,.pl (.one (.v (.sc (.bool b_4)))))],[(1,.box true [.list false 3 (List.map (zA false) x22.Commits),.list false 2 (List.map (zB false) x22.Files)]),(2,.box true [.sc (.int .i64 x25.1.Commits),.sc (.int .i64 x25.1.Files),.sc (.int .i64 x25.1.Versions),.sc (.int .i64 x25.1.Bodies),.sc (.int .i64 x25.1.Whole),.sc (.int .i64 x25.1.Bytes)])]⟩) ?_ ?_
       ·intro p
        refine zY ?_ ?_
        ·refine go ?_
         exact ge [3,4,110] [(1,1),(2,2)] 3 rfl
        ·refine go ?_
         exact ge [3,4,110] [(1,1),(2,2)] 3 rfl
       ·rintro b_4 _ rfl
        refine go ?_
        refine gc 7 (fun b_5 e'=>e'=⟨189,1,2,[(3,.pl (.one (.ref 1 []))),(118,.pl (.one (.v (.sc (.bool b_5)))))],[(1,.box true [.list false 3 (List.map (zA false) x22.Commits),.list false 2 (List.map (zB false) x22.Files)])]⟩) ?_ ?_
        ·intro p
         refine zY ?_ ?_
         ·refine go ?_
          exact ge [3,118] [(1,1)] 2 rfl
         ·refine go ?_
          exact ge [3,118] [(1,1)] 2 rfl
        ·rintro b_5 _ rfl
         refine go ?_
         refine sp ?_ ?_
         ·exact gz
         ·refine go ?_
          refine jn (fun e'=>laws_FnStats_j2=some r'∧e'=⟨189,1,1,[],[]⟩) ?_ ?_
          ·refine go ?_
           refine lp (fun c e'=>e'=⟨189,1,2,[(3,.pl (.one (.ref 1 []))),(13,.pl (.one (.v (.sc (.int .i64 c)))))],[(1,.box true [.list false 3 (List.map (zA false) x22.Commits),.list false 2 (List.map (zB false) x22.Files)])]⟩) [3,13] [(1,1)] 2 rfl ?_
           rintro c _ rfl y1'
           change Tl _ (laws_FnStats_l1 x22 c) _ _; unfold laws_FnStats_l1
           refine sq ?_
           refine go ?_
           refine sp ?_ ?_
           ·refine go ?_
            refine jn (fun e'=>laws_FnStats_j3 c=some y1'∧e'=⟨189,1,2,[(3,.pl (.one (.ref 1 []))),(13,.pl (.one (.v (.sc (.int .i64 c)))))],[(1,.box true [.list false 3 (List.map (zA false) x22.Commits),.list false 2 (List.map (zB false) x22.Files)])]⟩) ?_ ?_
            ·refine go ?_
             refine lp (fun i e'=>e'=⟨189,1,2,[(3,.pl (.one (.ref 1 []))),(13,.pl (.one (.v (.sc (.int .i64 c))))),(14,.pl (.one (.v (.sc (.int .i64 i)))))],[(1,.box true [.list false 3 (List.map (zA false) x22.Commits),.list false 2 (List.map (zB false) x22.Files)])]⟩) [3,13,14] [(1,1)] 2 rfl ?_
             rintro i _ rfl y2'
             change Tl _ (laws_FnStats_l2 x22 c i) _ _; unfold laws_FnStats_l2
             refine sq ?_
             refine go ?_; intro x v'
             refine go ?_
             refine sp ?_ ?_
             ·refine go ?_
              refine jn (fun e'=>laws_FnStats_j4 i=some y2'∧e'=⟨189,1,2,[(3,.pl (.one (.ref 1 []))),(13,.pl (.one (.v (.sc (.int .i64 c))))),(14,.pl (.one (.v (.sc (.int .i64 i)))))],[(1,.box true [.list false 3 (List.map (zA false) x22.Commits),.list false 2 (List.map (zB false) x22.Files)])]⟩) ?_ ?_
              ·refine go ?_; intro x_1 v'
               refine go ?_
               refine l1 ?_
               refine go ?_; intro x151
               refine go ?_
               refine sq ?_
               refine go ?_
               refine gc 4 (fun b_6 e'=>e'=⟨189,1,3,[(3,.pl (.one (.ref 1 []))),(13,.pl (.one (.v (.sc (.int .i64 c))))),(14,.pl (.one (.v (.sc (.int .i64 i))))),(16,.pl (.one (.ref 2 []))),(160,.pl (.one (.v (.sc (.bool b_6)))))],[(1,.box true [.list false 3 (List.map (zA false) x22.Commits),.list false 2 (List.map (zB false) x22.Files)]),(2,.list true 1 (List.map (rK .i64) x151.1))]⟩) ?_ ?_
               ·intro p
                refine zY ?_ ?_
                ·refine go ?_
                 exact ge [3,13,14,16,160] [(1,1),(3,2)] 3 rfl
                ·refine go ?_
                 exact ge [3,13,14,16,160] [(1,1),(3,2)] 3 rfl
               ·rintro b_6 _ rfl
                refine go ?_
                refine sp ?_ ?_
                ·exact gz
                ·refine go ?_
                 refine lp (fun k e'=>e'=⟨189,1,3,[(3,.pl (.one (.ref 1 []))),(13,.pl (.one (.v (.sc (.int .i64 c))))),(14,.pl (.one (.v (.sc (.int .i64 i))))),(16,.pl (.one (.ref 2 []))),(18,.pl (.one (.v (.sc (.int .i64 k)))))],[(1,.box true [.list false 3 (List.map (zA false) x22.Commits),.list false 2 (List.map (zB false) x22.Files)]),(2,.list true 1 (List.map (rK .i64) x151.1))]⟩) [3,13,14,16,18] [(1,1),(2,2)] 3 rfl ?_
                 rintro k _ rfl y3'
                 change Tl _ (laws_FnStats_l3 c x151 k) _ _; unfold laws_FnStats_l3
                 refine sq ?_
                 refine go ?_
                 refine sp ?_ ?_
                 ·refine go ?_
                  refine sq ?_
                  refine go ?_
                  refine rq ?_
                  refine go ?_
                  refine qc 11 (fun b_7 e'=>e'=⟨189,1,3,[(3,.pl (.one (.ref 1 []))),(13,.pl (.one (.v (.sc (.int .i64 c))))),(14,.pl (.one (.v (.sc (.int .i64 i))))),(16,.pl (.one (.ref 2 []))),(18,.pl (.one (.v (.sc (.int .i64 k))))),(180,.pl (.one (.v (.sc (.bool b_7)))))],[(1,.box true [.list false 3 (List.map (zA false) x22.Commits),.list false 2 (List.map (zB false) x22.Files)]),(2,.list true 1 (List.map (rK .i64) x151.1))]⟩) ?_ ?_
                  ·intro p
                   refine quV_spL ?_ ?_
                   ·refine go ?_; intro x_2 v'
                    refine go ?_; intro x_3 v'
                    refine go ?_
                    exact ge [3,13,14,16,18,180] [(1,1),(2,2)] 3 rfl
                   ·refine go ?_
                    exact ge [3,13,14,16,18,180] [(1,1),(2,2)] 3 rfl
                  ·rintro b_7 _ rfl
                   refine go ?_
                   refine qc 7 (fun b_8 e'=>e'=⟨189,1,3,[(3,.pl (.one (.ref 1 []))),(13,.pl (.one (.v (.sc (.int .i64 c))))),(14,.pl (.one (.v (.sc (.int .i64 i))))),(16,.pl (.one (.ref 2 []))),(18,.pl (.one (.v (.sc (.int .i64 k))))),(188,.pl (.one (.v (.sc (.bool b_8)))))],[(1,.box true [.list false 3 (List.map (zA false) x22.Commits),.list false 2 (List.map (zB false) x22.Files)]),(2,.list true 1 (List.map (rK .i64) x151.1))]⟩) ?_ ?_
                   ·intro p
                    refine quV_spR ?_ ?_
                    ·refine go ?_
                     exact ge [3,13,14,16,18,188] [(1,1),(2,2)] 3 rfl
                    ·refine go ?_; intro x_4 v'
                     refine go ?_
                     exact ge [3,13,14,16,18,188] [(1,1),(2,2)] 3 rfl
                   ·rintro b_8 _ rfl
                    refine go ?_
                    refine sp ?_ ?_
                    ·exact gz
                    ·refine go ?_
                     exact bk [3,13,14,16,18] [(1,1),(2,2)] 3 rfl
                 ·refine go ?_
                  exact je [3,13,14] [(1,1)] 2 fun h=>⟨h,rfl⟩
              ·rintro e' ⟨h,rfl⟩; refine tl h ?_; unfold laws_FnStats_j4
               refine go ?_
               exact bk [3,13,14] [(1,1)] 2 rfl
             ·refine go ?_
              exact je [3,13] [(1,1)] 2 fun h=>⟨h,rfl⟩
            ·rintro e' ⟨h,rfl⟩; refine tl h ?_; unfold laws_FnStats_j3
             refine go ?_
             exact bk [3,13] [(1,1)] 2 rfl
           ·refine go ?_
            exact je [] [] 1 fun h=>⟨h,rfl⟩
          ·rintro e' ⟨h,rfl⟩; refine tl h ?_; unfold laws_FnStats_j2
           exact gz
end Go.TV.KFnStats
