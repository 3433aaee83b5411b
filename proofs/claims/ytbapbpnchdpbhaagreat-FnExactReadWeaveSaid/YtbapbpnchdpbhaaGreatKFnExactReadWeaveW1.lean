/- Walks. -/
import Derived.Test.YtbapbpnchdpbhaaGreatKFnExactReadWeaveE
import Derived.Test.YtbapbpnchdpbhaaGreatKFnExactReadWeaveW0
set_option linter.unusedVariables false
set_option linter.unusedSimpArgs false
set_option maxHeartbeats 8000000
set_option maxRecDepth 100000
namespace Go.TV.KFnExactReadWeave
attribute [local irreducible] wpV opsV Does yU yP RetL quV seqV Cy lpP cutP cutQ
open Go.Proofs.Tryz Go.TV.F
instance W_spec_ReadWeave:∀ text,Wlk X (zN9 text) 36 [] [.one (.sc (.string text))] (fun r'=>[.agg [.list true 1 (List.map (rL true 1 (rK .i64)) r'.1.Parents),.list true 4 (List.map (zA true) r'.1.Bodies)],.one (.sc (.int .i64 r'.2))]) (fun r'=>[]):=fun text=>by
 refine ws f36 173 [.cell 2 27,.tmp 3] (h2 t3 (h2 t4 (h2 t5 (h2 t9 (h2 t24 (h2 t25 (h2 t27 (h2 t30 (h2 t39 (h2 t114 (h2 t163 (h2 jJ (h2 zM (h2 xJ qI)))))))))))))) ?_
 intro r'; unfold zN9
 refine go ?_
 refine l1 ?_
 refine go ?_
 refine sq ?_
 refine go ?_
 refine gc 4 (fun b e'=>e'=⟨173,1,2,[(0,.pl (.one (.v (.sc (.string text))))),(2,.pl (.one (.ref 1 []))),(29,.pl (.one (.v (.sc (.bool b)))))],[(1,.box true [.list true 1 (List.map (rL true 1 (rK .i64)) []),.list true 4 (List.map (zA true) [])])]⟩) ?_ ?_
 ·intro p
  refine qS ?_ ?_
  ·refine go ?_
   exact ge [0,2,29] [(1,1)] 2 rfl
  ·refine go ?_
   exact ge [0,2,29] [(1,1)] 2 rfl
 ·rintro b _ rfl
  refine go ?_
  refine sp ?_ ?_
  ·exact gz
  ·refine go ?_; intro x33
   refine go ?_
   refine sq ?_
   refine go ?_
   refine sp ?_ ?_
   ·exact gz
   ·refine go ?_
    refine sq ?_
    refine go ?_; intro x43
    refine go ?_
    refine sp ?_ ?_
    ·exact gz
    ·refine go ?_; intro x47
     refine go ?_
     refine jn (fun e'=>∃ c c_1 c_2 parents,zL5 text x33 c c_1 c_2 parents=some r'∧e'=⟨173,1,4,[(0,.pl (.one (.v (.sc (.string text))))),(2,.pl (.one (.ref 1 []))),(4,.pl (.one (.v (.sc (.string x33.1))))),(6,.pl (.one (.ref 2 []))),(8,.pl (.one (.ref 3 [])))],[(1,.box true [.list true 1 (List.map (rL true 1 (rK .i64)) []),.list true 4 (List.map (zA true) [])]),(2,.box true [.sc (.string c),.sc (.int .i64 c_1),.sc (.bool c_2)]),(3,.list true 1 (List.map (rL true 1 (rK .i64)) parents))]⟩) ?_ ?_
     ·refine go ?_
      refine lp (fun s' e'=>∃ v c_9 c_10 c_11 parents_1,s'=(v,c_9,c_10,c_11,parents_1)∧e'=⟨173,1,4,[(0,.pl (.one (.v (.sc (.string text))))),(2,.pl (.one (.ref 1 []))),(4,.pl (.one (.v (.sc (.string x33.1))))),(6,.pl (.one (.ref 2 []))),(7,.pl (.one (.v (.sc (.int .i64 x47.1))))),(8,.pl (.one (.ref 3 []))),(9,.pl (.one (.v (.sc (.int .i64 v)))))],[(1,.box true [.list true 1 (List.map (rL true 1 (rK .i64)) []),.list true 4 (List.map (zA true) [])]),(2,.box true [.sc (.string c_9),.sc (.int .i64 c_10),.sc (.bool c_11)]),(3,.list true 1 (List.map (rL true 1 (rK .i64)) parents_1))]⟩) [0,2,4,6,7,8,9] [(1,1),(4,2),(7,3)] 4 ⟨_,_,_,_,_,rfl,rfl⟩ ?_
      rintro s' _ ⟨v,c_9,c_10,c_11,parents_1,rfl,rfl⟩ y1'
      change Tl _ (kZ x47 v c_9 c_10 c_11 parents_1) _ _; unfold kZ
      refine sq ?_
      refine go ?_
      refine gc 6 (fun b_6 e'=>e'=⟨173,1,4,[(0,.pl (.one (.v (.sc (.string text))))),(2,.pl (.one (.ref 1 []))),(4,.pl (.one (.v (.sc (.string x33.1))))),(6,.pl (.one (.ref 2 []))),(7,.pl (.one (.v (.sc (.int .i64 x47.1))))),(8,.pl (.one (.ref 3 []))),(9,.pl (.one (.v (.sc (.int .i64 v))))),(58,.pl (.one (.v (.sc (.bool b_6)))))],[(1,.box true [.list true 1 (List.map (rL true 1 (rK .i64)) []),.list true 4 (List.map (zA true) [])]),(2,.box true [.sc (.string c_9),.sc (.int .i64 c_10),.sc (.bool c_11)]),(3,.list true 1 (List.map (rL true 1 (rK .i64)) parents_1))]⟩) ?_ ?_
      ·intro p
       refine yF ?_ ?_
       ·refine go ?_
        exact ge [0,2,4,6,7,8,9,58] [(1,1),(2,2),(3,3)] 4 rfl
       ·refine go ?_
        exact ge [0,2,4,6,7,8,9,58] [(1,1),(2,2),(3,3)] 4 rfl
      ·rintro b_6 _ rfl
       refine go ?_
       refine sp ?_ ?_
       ·refine go ?_
        refine jn (fun e'=>∃ c_12 c_13 c_14 parents_2,zL7 v c_12 c_13 c_14 parents_2=some y1'∧e'=⟨173,1,4,[(0,.pl (.one (.v (.sc (.string text))))),(2,.pl (.one (.ref 1 []))),(4,.pl (.one (.v (.sc (.string x33.1))))),(6,.pl (.one (.ref 2 []))),(7,.pl (.one (.v (.sc (.int .i64 x47.1))))),(8,.pl (.one (.ref 3 []))),(9,.pl (.one (.v (.sc (.int .i64 v)))))],[(1,.box true [.list true 1 (List.map (rL true 1 (rK .i64)) []),.list true 4 (List.map (zA true) [])]),(2,.box true [.sc (.string c_12),.sc (.int .i64 c_13),.sc (.bool c_14)]),(3,.list true 1 (List.map (rL true 1 (rK .i64)) parents_2))]⟩) ?_ ?_
        ·refine go ?_; intro x62
         refine go ?_
         refine jn (fun e'=>∃ c_15 c_16 c_17 list_,zM0 v parents_1 c_15 c_16 c_17 list_=some y1'∧e'=⟨173,1,5,[(0,.pl (.one (.v (.sc (.string text))))),(2,.pl (.one (.ref 1 []))),(4,.pl (.one (.v (.sc (.string x33.1))))),(6,.pl (.one (.ref 2 []))),(7,.pl (.one (.v (.sc (.int .i64 x47.1))))),(8,.pl (.one (.ref 3 []))),(9,.pl (.one (.v (.sc (.int .i64 v))))),(11,.pl (.one (.ref 4 [])))],[(1,.box true [.list true 1 (List.map (rL true 1 (rK .i64)) []),.list true 4 (List.map (zA true) [])]),(2,.box true [.sc (.string c_15),.sc (.int .i64 c_16),.sc (.bool c_17)]),(3,.list true 1 (List.map (rL true 1 (rK .i64)) parents_1)),(4,.list true 1 (List.map (rK .i64) list_))]⟩) ?_ ?_
         ·refine go ?_
          refine lp (fun s' e'=>∃ k c_18 c_19 c_20 list__1,s'=(k,c_18,c_19,c_20,list__1)∧e'=⟨173,1,5,[(0,.pl (.one (.v (.sc (.string text))))),(2,.pl (.one (.ref 1 []))),(4,.pl (.one (.v (.sc (.string x33.1))))),(6,.pl (.one (.ref 2 []))),(7,.pl (.one (.v (.sc (.int .i64 x47.1))))),(8,.pl (.one (.ref 3 []))),(9,.pl (.one (.v (.sc (.int .i64 v))))),(10,.pl (.one (.v (.sc (.int .i64 x62.1))))),(11,.pl (.one (.ref 4 []))),(12,.pl (.one (.v (.sc (.int .i64 k)))))],[(1,.box true [.list true 1 (List.map (rL true 1 (rK .i64)) []),.list true 4 (List.map (zA true) [])]),(2,.box true [.sc (.string c_18),.sc (.int .i64 c_19),.sc (.bool c_20)]),(3,.list true 1 (List.map (rL true 1 (rK .i64)) parents_1)),(4,.list true 1 (List.map (rK .i64) list__1))]⟩) [0,2,4,6,7,8,9,10,11,12] [(1,1),(2,2),(3,3),(5,4)] 5 ⟨_,_,_,_,_,rfl,rfl⟩ ?_
          rintro s' _ ⟨k,c_18,c_19,c_20,list__1,rfl,rfl⟩ y2'
          change Tl _ (jV x62 k c_18 c_19 c_20 list__1) _ _; unfold jV
          refine sq ?_
          refine go ?_
          refine gc 6 (fun b_7 e'=>e'=⟨173,1,5,[(0,.pl (.one (.v (.sc (.string text))))),(2,.pl (.one (.ref 1 []))),(4,.pl (.one (.v (.sc (.string x33.1))))),(6,.pl (.one (.ref 2 []))),(7,.pl (.one (.v (.sc (.int .i64 x47.1))))),(8,.pl (.one (.ref 3 []))),(9,.pl (.one (.v (.sc (.int .i64 v))))),(10,.pl (.one (.v (.sc (.int .i64 x62.1))))),(11,.pl (.one (.ref 4 []))),(12,.pl (.one (.v (.sc (.int .i64 k))))),(73,.pl (.one (.v (.sc (.bool b_7)))))],[(1,.box true [.list true 1 (List.map (rL true 1 (rK .i64)) []),.list true 4 (List.map (zA true) [])]),(2,.box true [.sc (.string c_18),.sc (.int .i64 c_19),.sc (.bool c_20)]),(3,.list true 1 (List.map (rL true 1 (rK .i64)) parents_1)),(4,.list true 1 (List.map (rK .i64) list__1))]⟩) ?_ ?_
          ·intro p
           refine yF ?_ ?_
           ·refine go ?_
            exact ge [0,2,4,6,7,8,9,10,11,12,73] [(1,1),(2,2),(3,3),(4,4)] 5 rfl
           ·refine go ?_
            exact ge [0,2,4,6,7,8,9,10,11,12,73] [(1,1),(2,2),(3,3),(4,4)] 5 rfl
          ·rintro b_7 _ rfl
           refine go ?_
           refine sp ?_ ?_
           ·refine go ?_
            refine sq ?_
            refine go ?_; intro x78
            refine go ?_; intro l_3 v'
            refine go ?_
            exact bk [0,2,4,6,7,8,9,10,11,12] [(1,1),(2,2),(3,3),(4,4)] 5 ⟨_,_,_,_,_,rfl,rfl⟩
           ·refine go ?_
            exact je [0,2,4,6,7,8,9,11] [(1,1),(2,2),(3,3),(4,4)] 5 fun h=>⟨_,_,_,_,h,rfl⟩
         ·rintro e' ⟨c_15,c_16,c_17,list_,h,rfl⟩; refine tl h ?_; unfold zM0
          refine go ?_; intro l_2 v'
          refine go ?_; intro x86
          refine go ?_
          exact je [0,2,4,6,7,8,9] [(1,1),(2,2),(3,3)] 4 fun h=>⟨_,_,_,_,h,rfl⟩
        ·rintro e' ⟨c_12,c_13,c_14,parents_2,h,rfl⟩; refine tl h ?_; unfold zL7
         refine go ?_
         exact bk [0,2,4,6,7,8,9] [(1,1),(2,2),(3,3)] 4 ⟨_,_,_,_,_,rfl,rfl⟩
       ·refine go ?_
        exact je [0,2,4,6,8] [(1,1),(2,2),(3,3)] 4 fun h=>⟨_,_,_,_,h,rfl⟩
     ·rintro e' ⟨c,c_1,c_2,parents,h,rfl⟩; refine tl h ?_; unfold zL5
      refine go ?_; intro x88
      refine go ?_
      refine jn (fun e'=>∃ c_3 c_4 c_5 recs,zL8 text x33 parents c_3 c_4 c_5 recs=some r'∧e'=⟨173,1,5,[(0,.pl (.one (.v (.sc (.string text))))),(2,.pl (.one (.ref 1 []))),(4,.pl (.one (.v (.sc (.string x33.1))))),(6,.pl (.one (.ref 2 []))),(8,.pl (.one (.ref 3 []))),(14,.pl (.one (.ref 4 [])))],[(1,.box true [.list true 1 (List.map (rL true 1 (rK .i64)) []),.list true 4 (List.map (zA true) [])]),(2,.box true [.sc (.string c_3),.sc (.int .i64 c_4),.sc (.bool c_5)]),(3,.list true 1 (List.map (rL true 1 (rK .i64)) parents)),(4,.list true 3 (List.map (zB true) recs))]⟩) ?_ ?_
      ·refine go ?_
       refine lp (fun s' e'=>∃ i c_6 c_7 c_8 recs_1,s'=(i,c_6,c_7,c_8,recs_1)∧e'=⟨173,1,5,[(0,.pl (.one (.v (.sc (.string text))))),(2,.pl (.one (.ref 1 []))),(4,.pl (.one (.v (.sc (.string x33.1))))),(6,.pl (.one (.ref 2 []))),(8,.pl (.one (.ref 3 []))),(13,.pl (.one (.v (.sc (.int .i64 x88.1))))),(14,.pl (.one (.ref 4 []))),(15,.pl (.one (.v (.sc (.int .i64 i)))))],[(1,.box true [.list true 1 (List.map (rL true 1 (rK .i64)) []),.list true 4 (List.map (zA true) [])]),(2,.box true [.sc (.string c_6),.sc (.int .i64 c_7),.sc (.bool c_8)]),(3,.list true 1 (List.map (rL true 1 (rK .i64)) parents)),(4,.list true 3 (List.map (zB true) recs_1))]⟩) [0,2,4,6,8,13,14,15] [(1,1),(2,2),(3,3),(5,4)] 5 ⟨_,_,_,_,_,rfl,rfl⟩ ?_
       rintro s' _ ⟨i,c_6,c_7,c_8,recs_1,rfl,rfl⟩ y1'
       change Tl _ (jU x88 i c_6 c_7 c_8 recs_1) _ _; unfold jU
       refine sq ?_
       refine go ?_
       refine gc 6 (fun b_4 e'=>e'=⟨173,1,5,[(0,.pl (.one (.v (.sc (.string text))))),(2,.pl (.one (.ref 1 []))),(4,.pl (.one (.v (.sc (.string x33.1))))),(6,.pl (.one (.ref 2 []))),(8,.pl (.one (.ref 3 []))),(13,.pl (.one (.v (.sc (.int .i64 x88.1))))),(14,.pl (.one (.ref 4 []))),(15,.pl (.one (.v (.sc (.int .i64 i))))),(99,.pl (.one (.v (.sc (.bool b_4)))))],[(1,.box true [.list true 1 (List.map (rL true 1 (rK .i64)) []),.list true 4 (List.map (zA true) [])]),(2,.box true [.sc (.string c_6),.sc (.int .i64 c_7),.sc (.bool c_8)]),(3,.list true 1 (List.map (rL true 1 (rK .i64)) parents)),(4,.list true 3 (List.map (zB true) recs_1))]⟩) ?_ ?_
       ·intro p
        refine yF ?_ ?_
        ·refine go ?_
         exact ge [0,2,4,6,8,13,14,15,99] [(1,1),(2,2),(3,3),(4,4)] 5 rfl
        ·refine go ?_
         exact ge [0,2,4,6,8,13,14,15,99] [(1,1),(2,2),(3,3),(4,4)] 5 rfl
       ·rintro b_4 _ rfl
        refine go ?_
        refine sp ?_ ?_
        ·refine go ?_
         refine sq ?_
         refine go ?_; intro x103
         refine go ?_
         refine sq ?_
         refine go ?_
         refine gc 6 (fun b_5 e'=>e'=⟨173,1,5,[(0,.pl (.one (.v (.sc (.string text))))),(2,.pl (.one (.ref 1 []))),(4,.pl (.one (.v (.sc (.string x33.1))))),(6,.pl (.one (.ref 2 []))),(8,.pl (.one (.ref 3 []))),(13,.pl (.one (.v (.sc (.int .i64 x88.1))))),(14,.pl (.one (.ref 4 []))),(15,.pl (.one (.v (.sc (.int .i64 i))))),(16,.pl (.one (.v (.sc (.string x103.1))))),(114,.pl (.one (.v (.sc (.bool b_5)))))],[(1,.box true [.list true 1 (List.map (rL true 1 (rK .i64)) []),.list true 4 (List.map (zA true) [])]),(2,.box true [.sc (.string x103.2.text),.sc (.int .i64 x103.2.at_),.sc (.bool x103.2.bad)]),(3,.list true 1 (List.map (rL true 1 (rK .i64)) parents)),(4,.list true 3 (List.map (zB true) recs_1))]⟩) ?_ ?_
         ·intro p
          refine qS ?_ ?_
          ·refine go ?_
           exact ge [0,2,4,6,8,13,14,15,16,114] [(1,1),(2,2),(3,3),(4,4)] 5 rfl
          ·refine go ?_; intro x110 v'
           refine go ?_; intro x112
           refine go ?_
           exact ge [0,2,4,6,8,13,14,15,16,114] [(1,1),(2,2),(3,3),(4,4)] 5 rfl
         ·rintro b_5 _ rfl
          refine go ?_
          refine sp ?_ ?_
          ·refine go ?_
           exact bk [0,2,4,6,8,13,14,15] [(1,1),(2,2),(3,3),(4,4)] 5 ⟨_,_,_,_,_,rfl,rfl⟩
          ·refine go ?_; intro x119 v'
           refine go ?_
           refine l1 ?_
           refine go ?_
           refine sq ?_
           refine go ?_
           refine sp ?_ ?_
           ·refine go ?_; intro x126
            refine go ?_; intro l v'
            refine go ?_
            exact bk [0,2,4,6,8,13,14,15] [(1,1),(2,2),(3,3),(4,4)] 5 ⟨_,_,_,_,_,rfl,rfl⟩
           ·refine go ?_; intro x129
            refine go ?_; intro l_1 v'
            refine go ?_
            exact bk [0,2,4,6,8,13,14,15] [(1,1),(2,2),(3,3),(4,4)] 5 ⟨_,_,_,_,_,rfl,rfl⟩
        ·refine go ?_
         exact je [0,2,4,6,8,14] [(1,1),(2,2),(3,3),(4,4)] 5 fun h=>⟨_,_,_,_,h,rfl⟩
      ·rintro e' ⟨c_3,c_4,c_5,recs,h,rfl⟩; refine tl h ?_; unfold zL8
       refine sq ?_
       refine go ?_
       refine gc 8 (fun b_1 e'=>e'=⟨173,1,4,[(0,.pl (.one (.v (.sc (.string text))))),(2,.pl (.one (.ref 1 []))),(8,.pl (.one (.ref 2 []))),(14,.pl (.one (.ref 3 []))),(147,.pl (.one (.v (.sc (.bool b_1)))))],[(1,.box true [.list true 1 (List.map (rL true 1 (rK .i64)) []),.list true 4 (List.map (zA true) [])]),(2,.list true 1 (List.map (rL true 1 (rK .i64)) parents)),(3,.list true 3 (List.map (zB true) recs))]⟩) ?_ ?_
       ·intro p
        refine qS ?_ ?_
        ·refine go ?_
         exact ge [0,2,8,14,147] [(1,1),(3,2),(4,3)] 4 rfl
        ·refine go ?_
         exact ge [0,2,8,14,147] [(1,1),(3,2),(4,3)] 4 rfl
       ·rintro b_1 _ rfl
        refine go ?_
        refine sp ?_ ?_
        ·exact gz
        ·refine go ?_; intro x152
         refine go ?_
         refine l1 ?_
         refine go ?_; intro x157
         refine go ?_
         refine sq ?_
         refine go ?_
         refine gc 3 (fun b_2 e'=>e'=⟨173,1,3,[(0,.pl (.one (.v (.sc (.string text))))),(2,.pl (.one (.ref 1 []))),(18,.pl (.one (.ref 2 []))),(20,.pl (.one (.v (.sc (.string x157.1))))),(165,.pl (.one (.v (.sc (.bool b_2)))))],[(1,.box true [.list true 1 (List.map (rL true 1 (rK .i64)) []),.list true 4 (List.map (zA true) [])]),(2,.box true [.list true 1 (List.map (rL true 1 (rK .i64)) x152.1.Parents),.list true 4 (List.map (zA true) x152.1.Bodies)])]⟩) ?_ ?_
         ·intro p
          refine qS ?_ ?_
          ·refine go ?_
           exact ge [0,2,18,20,165] [(1,1),(7,2)] 3 rfl
          ·refine go ?_
           exact ge [0,2,18,20,165] [(1,1),(7,2)] 3 rfl
         ·rintro b_2 _ rfl
          refine go ?_
          refine gc 4 (fun b_3 e'=>e'=⟨173,1,3,[(2,.pl (.one (.ref 1 []))),(18,.pl (.one (.ref 2 []))),(170,.pl (.one (.v (.sc (.bool b_3)))))],[(1,.box true [.list true 1 (List.map (rL true 1 (rK .i64)) []),.list true 4 (List.map (zA true) [])]),(2,.box true [.list true 1 (List.map (rL true 1 (rK .i64)) x152.1.Parents),.list true 4 (List.map (zA true) x152.1.Bodies)])]⟩) ?_ ?_
          ·intro p
           refine qS ?_ ?_
           ·refine go ?_
            exact ge [2,18,170] [(1,1),(2,2)] 3 rfl
           ·refine go ?_
            exact ge [2,18,170] [(1,1),(2,2)] 3 rfl
          ·rintro b_3 _ rfl
           refine go ?_
           refine sp ?_ ?_
           ·exact gz
           ·exact gz
instance W_impl_SumMore:∀ sum text,Wlk X (zU6 sum text) 210 [] [.one (.sc (.int .u32 sum)),.one (.sc (.string text))] (fun r'=>[.one (.sc (.int .u32 r'))]) (fun r'=>[]):=fun sum text=>by
 refine ws f210 31 [.tmp 4] (h2 t3 (h2 t5 (h2 t9 t59))) ?_
 intro r'; unfold zU6
 refine go ?_
 refine jn (fun e'=>∃ sum_1,qC4 sum_1=some r'∧e'=⟨31,2,2,[(0,.pl (.one (.v (.sc (.int .u32 sum_1)))))],[]⟩) ?_ ?_
 ·refine go ?_
  refine lp (fun s' e'=>∃ sum_2 i,s'=(sum_2,i)∧e'=⟨31,2,2,[(0,.pl (.one (.v (.sc (.int .u32 sum_2))))),(1,.pl (.one (.v (.sc (.string text))))),(5,.pl (.one (.v (.sc (.int .i64 i)))))],[]⟩) [0,1,5] [] 2 ⟨_,_,rfl,rfl⟩ ?_
  rintro s' _ ⟨sum_2,i,rfl,rfl⟩ y1'
  change Tl _ (zJ7 text sum_2 i) _ _; unfold zJ7
  refine sq ?_
  refine go ?_
  refine sp ?_ ?_
  ·refine go ?_
   refine jn (fun e'=>∃ sum_3,zS3 i sum_3=some y1'∧e'=⟨31,2,2,[(0,.pl (.one (.v (.sc (.int .u32 sum_3))))),(1,.pl (.one (.v (.sc (.string text))))),(5,.pl (.one (.v (.sc (.int .i64 i)))))],[]⟩) ?_ ?_
   ·refine go ?_; intro x16 v'
    refine go ?_
    refine lp (fun s' e'=>∃ sum_4 x19,s'=(sum_4,x19)∧e'=⟨31,2,2,[(0,.pl (.one (.v (.sc (.int .u32 sum_4))))),(1,.pl (.one (.v (.sc (.string text))))),(5,.pl (.one (.v (.sc (.int .i64 i))))),(19,.pl (.one (.v (.sc (.int .i64 x19)))))],[]⟩) [0,1,5,19] [] 2 ⟨_,_,rfl,rfl⟩ ?_
    rintro s' _ ⟨sum_4,x19,rfl,rfl⟩ y2'
    change Tl _ (yL sum_4 x19) _ _; unfold yL
    refine go ?_
    refine sq ?_
    refine go ?_
    refine sp ?_ ?_
    ·refine go ?_
     refine sq ?_
     refine go ?_
     refine sp ?_ ?_
     ·refine go ?_
      exact bk [0,1,5,19] [] 2 ⟨_,_,rfl,rfl⟩
     ·refine go ?_
      exact bk [0,1,5,19] [] 2 ⟨_,_,rfl,rfl⟩
    ·refine go ?_
     exact je [0,1,5] [] 2 fun h=>⟨_,h,rfl⟩
   ·rintro e' ⟨sum_3,h,rfl⟩; refine tl h ?_; unfold zS3
    refine go ?_
    exact bk [0,1,5] [] 2 ⟨_,_,rfl,rfl⟩
  ·refine go ?_
   exact je [0] [] 2 fun h=>⟨_,h,rfl⟩
 ·rintro e' ⟨sum_1,h,rfl⟩; refine tl h ?_; unfold qC4
  exact gz
instance W_impl_SumOf:∀ text,Wlk X (zW0 text) 121 [] [.one (.sc (.string text))] (fun r'=>[.one (.sc (.int .u32 r'))]) (fun r'=>[]):=fun text=>by
 refine ws f121 5 [.tmp 2] trivial ?_
 intro r'; unfold zW0
 refine go ?_; intro x4
 exact gz
instance W_impl_sumText:∀ text,Wlk X (uJ text) 112 [] [.one (.sc (.string text))] (fun r'=>[.one (.sc (.string r'))]) (fun r'=>[]):=fun text=>by
 refine ws f112 19 [.tmp 2] (h2 t5 (h2 t9 (h2 t22 t59))) ?_
 intro r'; unfold uJ
 refine go ?_; intro x5
 refine fk (show zM8 [[V.sc (.int .u8 (wk .u8 (xL .u32 x5 24)))],[V.sc (.int .u8 (wk .u8 (xL .u32 x5 16)))],[V.sc (.int .u8 (wk .u8 (xL .u32 x5 8)))],[V.sc (.int .u8 (wk .u8 x5))]]=some [(wk .u8 (xL .u32 x5 24)),(wk .u8 (xL .u32 x5 16)),(wk .u8 (xL .u32 x5 8)),(wk .u8 x5)] from qK [(wk .u8 (xL .u32 x5 24)),(wk .u8 (xL .u32 x5 16)),(wk .u8 (xL .u32 x5 8)),(wk .u8 x5)]) ?_
 exact gz
instance W_impl_Unsealed:∀ text,Wlk X (zI4 text) 98 [] [.one (.sc (.string text))] (fun r'=>[.one (.sc (.string r'.1)),.one (.sc (.bool r'.2))]) (fun r'=>[]):=fun text=>by
 refine ws f98 27 [.tmp 2,.tmp 3] (h2 t3 t9) ?_
 intro r'; unfold zI4
 refine go ?_
 refine sq ?_
 refine go ?_
 refine rq ?_
 refine go ?_
 refine qc 3 (fun b e'=>e'=⟨27,1,1,[(0,.pl (.one (.v (.sc (.string text))))),(4,.pl (.one (.v (.sc (.int .i64 (wk .i64 ((text.size:Int) - 4))))))),(13,.pl (.one (.v (.sc (.bool b)))))],[]⟩) ?_ ?_
 ·intro p
  refine zA3 ?_ ?_
  ·refine go ?_
   exact ge [0,4,13] [] 1 rfl
  ·refine go ?_
   exact ge [0,4,13] [] 1 rfl
 ·rintro b _ rfl
  refine go ?_
  refine qc 9 (fun b_1 e'=>e'=⟨27,1,1,[(0,.pl (.one (.v (.sc (.string text))))),(4,.pl (.one (.v (.sc (.int .i64 (wk .i64 ((text.size:Int) - 4))))))),(23,.pl (.one (.v (.sc (.bool b_1)))))],[]⟩) ?_ ?_
  ·intro p
   refine zA3 ?_ ?_
   ·refine go ?_
    exact ge [0,4,23] [] 1 rfl
   ·refine go ?_; intro x17 v'
    refine go ?_; intro x18
    refine go ?_; intro x21 v'
    refine go ?_
    exact ge [0,4,23] [] 1 rfl
  ·rintro b_1 _ rfl
   refine go ?_
   refine sp ?_ ?_
   ·exact gz
   ·refine go ?_; intro x26 v'
    refine go ?_
    refine l1 ?_
    exact gz
instance W_impl_scanner_take:∀ s n,Wlk X (zS s n) 115 [0] [.one (.box true [.sc (.string s.text),.sc (.int .i64 s.at_),.sc (.bool s.bad)]),.one (.sc (.int .i64 n))] (fun r'=>[.one (.sc (.string r'.1))]) (fun r'=>[(0,.box true [.sc (.string r'.2.text),.sc (.int .i64 r'.2.at_),.sc (.bool r'.2.bad)])]):=fun s n=>by
 refine ws f115 49 [.tmp 4] (h2 t3 (h2 t4 (h2 t9 t153))) ?_
 intro r'; unfold zS
 refine go ?_
 refine sq ?_
 refine go ?_
 refine rq ?_
 refine go ?_
 refine qc 13 (fun b e'=>e'=⟨49,2,2,[(0,.pl (.one (.ref 0 []))),(1,.pl (.one (.v (.sc (.int .i64 n))))),(22,.pl (.one (.v (.sc (.bool b)))))],[(0,.box true [.sc (.string s.text),.sc (.int .i64 s.at_),.sc (.bool s.bad)])]⟩) ?_ ?_
 ·intro p
  refine zA3 ?_ ?_
  ·refine go ?_
   exact ge [0,1,22] [(0,0)] 2 rfl
  ·refine go ?_
   exact ge [0,1,22] [(0,0)] 2 rfl
 ·rintro b _ rfl
  refine go ?_
  refine sp ?_ ?_
  ·exact gz
  ·refine go ?_
   refine rq ?_
   refine go ?_; intro x48 v'
   exact gz
instance W_impl_scanner_mark:∀ s mark,Wlk X (zD6 s mark) 99 [0] [.one (.box true [.sc (.string s.text),.sc (.int .i64 s.at_),.sc (.bool s.bad)]),.one (.sc (.string mark))] (fun r'=>[]) (fun r'=>[(0,.box true [.sc (.string r'.text),.sc (.int .i64 r'.at_),.sc (.bool r'.bad)])]):=fun s mark=>by
 refine ws f99 13 [] (h2 t4 (h2 t9 t153)) ?_
 intro r'; unfold zD6
 refine go ?_; intro x7
 refine go ?_
 refine sp ?_ ?_
 ·exact gz
 ·exact gz
instance W_impl_ReadVar:∀ text at_,Wlk X (zU5 text at_) 265 [] [.one (.sc (.string text)),.one (.sc (.int .i64 at_))] (fun r'=>[.one (.sc (.int .i64 r'.1)),.one (.sc (.int .i64 r'.2.1)),.one (.sc (.bool r'.2.2))]) (fun r'=>[]):=fun text at_=>by
 refine ws f265 62 [.tmp 4,.tmp 5,.tmp 6] (h2 t3 (h2 t5 t9)) ?_
 intro r'; unfold zU5
 refine go ?_
 refine sq ?_
 refine go ?_
 refine gc 5 (fun b e'=>e'=⟨62,2,2,[(0,.pl (.one (.v (.sc (.string text))))),(1,.pl (.one (.v (.sc (.int .i64 at_))))),(18,.pl (.one (.v (.sc (.bool b)))))],[]⟩) ?_ ?_
 ·intro p
  refine qS ?_ ?_
  ·refine go ?_
   exact ge [0,1,18] [] 2 rfl
  ·refine go ?_
   exact ge [0,1,18] [] 2 rfl
 ·rintro b _ rfl
  refine go ?_
  refine sp ?_ ?_
  ·exact gz
  ·refine go ?_
   refine jn (fun e'=>qB2=some r'∧e'=⟨62,2,2,[],[]⟩) ?_ ?_
   ·refine go ?_
    refine lp (fun s' e'=>∃ n unit i,s'=(n,unit,i)∧e'=⟨62,2,2,[(0,.pl (.one (.v (.sc (.string text))))),(1,.pl (.one (.v (.sc (.int .i64 at_))))),(7,.pl (.one (.v (.sc (.int .i64 n))))),(8,.pl (.one (.v (.sc (.int .i64 unit))))),(9,.pl (.one (.v (.sc (.int .i64 i)))))],[]⟩) [0,1,7,8,9] [] 2 ⟨_,_,_,rfl,rfl⟩ ?_
    rintro s' _ ⟨n,unit,i,rfl,rfl⟩ y1'
    change Tl _ (zJ9 text at_ n unit i) _ _; unfold zJ9
    refine sq ?_
    refine go ?_
    refine gc 7 (fun b_1 e'=>e'=⟨62,2,2,[(0,.pl (.one (.v (.sc (.string text))))),(1,.pl (.one (.v (.sc (.int .i64 at_))))),(7,.pl (.one (.v (.sc (.int .i64 n))))),(8,.pl (.one (.v (.sc (.int .i64 unit))))),(9,.pl (.one (.v (.sc (.int .i64 i))))),(28,.pl (.one (.v (.sc (.bool b_1)))))],[]⟩) ?_ ?_
    ·intro p
     refine yF ?_ ?_
     ·refine go ?_
      exact ge [0,1,7,8,9,28] [] 2 rfl
     ·refine go ?_
      exact ge [0,1,7,8,9,28] [] 2 rfl
    ·rintro b_1 _ rfl
     refine go ?_
     refine sp ?_ ?_
     ·refine go ?_
      refine sq ?_
      refine go ?_; intro x35 v'
      refine go ?_
      refine sq ?_
      refine go ?_
      refine sp ?_ ?_
      ·refine go ?_
       exact bk [0,1,7,8,9] [] 2 ⟨_,_,_,rfl,rfl⟩
      ·refine go ?_
       refine sq ?_
       refine go ?_
       refine gc 3 (fun b_2 e'=>e'=⟨62,2,2,[(1,.pl (.one (.v (.sc (.int .i64 at_))))),(7,.pl (.one (.v (.sc (.int .i64 (wk .i64 (n+(wk .i64 (((wk .i64 x35).tmod 128) * unit))))))))),(9,.pl (.one (.v (.sc (.int .i64 i))))),(52,.pl (.one (.v (.sc (.bool b_2)))))],[]⟩) ?_ ?_
       ·intro p
        refine yF ?_ ?_
        ·refine go ?_
         exact ge [1,7,9,52] [] 2 rfl
        ·refine go ?_
         exact ge [1,7,9,52] [] 2 rfl
       ·rintro b_2 _ rfl
        refine go ?_
        refine gc 3 (fun b_3 e'=>e'=⟨62,2,2,[(1,.pl (.one (.v (.sc (.int .i64 at_))))),(7,.pl (.one (.v (.sc (.int .i64 (wk .i64 (n+(wk .i64 (((wk .i64 x35).tmod 128) * unit))))))))),(9,.pl (.one (.v (.sc (.int .i64 i))))),(56,.pl (.one (.v (.sc (.bool b_3)))))],[]⟩) ?_ ?_
        ·intro p
         refine qS ?_ ?_
         ·refine go ?_
          exact ge [1,7,9,56] [] 2 rfl
         ·refine go ?_
          exact ge [1,7,9,56] [] 2 rfl
        ·rintro b_3 _ rfl
         refine go ?_
         refine sp ?_ ?_
         ·exact gz
         ·exact gz
     ·refine go ?_
      exact je [] [] 2 fun h=>⟨h,rfl⟩
   ·rintro e' ⟨h,rfl⟩; refine tl h ?_; unfold qB2
    exact gz
instance W_impl_scanner_number:∀ s,Wlk X (qA s) 199 [0] [.one (.box true [.sc (.string s.text),.sc (.int .i64 s.at_),.sc (.bool s.bad)])] (fun r'=>[.one (.sc (.int .i64 r'.1))]) (fun r'=>[(0,.box true [.sc (.string r'.2.text),.sc (.int .i64 r'.2.at_),.sc (.bool r'.2.bad)])]):=fun s=>by
 refine ws f199 35 [.tmp 2] (h2 t3 (h2 t4 (h2 t9 t153))) ?_
 intro r'; unfold qA
 refine go ?_
 refine rq ?_
 refine go ?_
 refine qT (fun x=>[(.int .i64 x.1),(.int .i64 x.2.1),(.bool x.2.2)]) ?_; intro x15
 refine go ?_
 refine sq ?_
 refine go ?_
 refine gc 3 (fun b e'=>e'=⟨35,1,1,[(0,.pl (.one (.ref 0 []))),(3,.pl (.one (.v (.sc (.int .i64 x15.1))))),(4,.pl (.one (.v (.sc (.int .i64 x15.2.1))))),(26,.pl (.one (.v (.sc (.bool b)))))],[(0,.box true [.sc (.string s.text),.sc (.int .i64 s.at_),.sc (.bool s.bad)])]⟩) ?_ ?_
 ·intro p
  refine qS ?_ ?_
  ·refine go ?_
   exact ge [0,3,4,26] [(0,0)] 1 rfl
  ·refine go ?_
   exact ge [0,3,4,26] [(0,0)] 1 rfl
 ·rintro b _ rfl
  refine go ?_
  refine sp ?_ ?_
  ·exact gz
  ·exact gz
instance W_impl_scanner_count:∀ s most,Wlk X (kH s most) 100 [0] [.one (.box true [.sc (.string s.text),.sc (.int .i64 s.at_),.sc (.bool s.bad)]),.one (.sc (.int .i64 most))] (fun r'=>[.one (.sc (.int .i64 r'.1))]) (fun r'=>[(0,.box true [.sc (.string r'.2.text),.sc (.int .i64 r'.2.at_),.sc (.bool r'.2.bad)])]):=fun s most=>by
 refine ws f100 15 [.tmp 4] (h2 t3 (h2 t4 t153)) ?_
 intro r'; unfold kH
 refine go ?_; intro x7
 refine go ?_
 refine sq ?_
 refine go ?_
 refine sp ?_ ?_
 ·exact gz
 ·exact gz
instance W_impl_scanner_numbers:∀ s most,Wlk X (kS s most) 101 [0] [.one (.box true [.sc (.string s.text),.sc (.int .i64 s.at_),.sc (.bool s.bad)]),.one (.sc (.int .i64 most))] (fun r'=>[.one (.list true 1 (List.map (rK .i64) r'.1))]) (fun r'=>[(0,.box true [.sc (.string r'.2.text),.sc (.int .i64 r'.2.at_),.sc (.bool r'.2.bad)])]):=fun s most=>by
 refine ws f101 20 [.tmp 4] (h2 t3 (h2 t39 qI)) ?_
 intro r'; unfold kS
 refine go ?_
 refine l1 ?_
 refine go ?_
 refine l1 ?_
 refine go ?_
 refine jn (fun e'=>∃ s_1 s_2 s_3 out_,uR s_1 s_2 s_3 out_=some r'∧e'=⟨20,2,3,[(5,.pl (.one (.ref 2 [])))],[(0,.box true [.sc (.string s_1),.sc (.int .i64 s_2),.sc (.bool s_3)]),(2,.list true 1 (List.map (rK .i64) out_))]⟩) ?_ ?_
 ·refine go ?_; intro x9
  refine go ?_
  refine lp (fun s' e'=>∃ x10 s_4 s_5 s_6 out__1,s'=(x10,s_4,s_5,s_6,out__1)∧e'=⟨20,2,3,[(0,.pl (.one (.ref 0 []))),(5,.pl (.one (.ref 2 []))),(9,.pl (.one (.v (.sc (.int .i64 x9.1))))),(10,.pl (.one (.v (.sc (.int .i64 x10)))))],[(0,.box true [.sc (.string s_4),.sc (.int .i64 s_5),.sc (.bool s_6)]),(2,.list true 1 (List.map (rK .i64) out__1))]⟩) [0,5,9,10] [(0,0),(3,2)] 3 ⟨_,_,_,_,_,rfl,rfl⟩ ?_
  rintro s' _ ⟨x10,s_4,s_5,s_6,out__1,rfl,rfl⟩ y1'
  change Tl _ (kK x9 x10 s_4 s_5 s_6 out__1) _ _; unfold kK
  refine go ?_
  refine sq ?_
  refine go ?_
  refine sp ?_ ?_
  ·refine go ?_
   refine sq ?_
   refine go ?_; intro x13
   refine go ?_; intro l v'
   refine go ?_
   exact bk [0,5,9,10] [(0,0),(2,2)] 3 ⟨_,_,_,_,_,rfl,rfl⟩
  ·refine go ?_
   exact je [5] [(0,0),(2,2)] 3 fun h=>⟨_,_,_,_,h,rfl⟩
 ·rintro e' ⟨s_1,s_2,s_3,out_,h,rfl⟩; refine tl h ?_; unfold uR
  exact gz
instance W_impl_scanner_octet:∀ s,Wlk X (zB4 s) 200 [0] [.one (.box true [.sc (.string s.text),.sc (.int .i64 s.at_),.sc (.bool s.bad)])] (fun r'=>[.one (.sc (.int .i64 r'.1))]) (fun r'=>[(0,.box true [.sc (.string r'.2.text),.sc (.int .i64 r'.2.at_),.sc (.bool r'.2.bad)])]):=fun s=>by
 refine ws f200 11 [.tmp 2] (h2 t3 (h2 t5 t9)) ?_
 intro r'; unfold zB4
 refine go ?_; intro x5
 refine go ?_
 refine sq ?_
 refine go ?_
 refine sp ?_ ?_
 ·exact gz
 ·refine go ?_; intro x9 v'
  exact gz
instance W_impl_inRange:∀ n least most,Wlk X (vR n least most) 142 [] [.one (.sc (.int .i64 n)),.one (.sc (.int .i64 least)),.one (.sc (.int .i64 most))] (fun r'=>[.one (.sc (.bool r'))]) (fun r'=>[]):=fun n least most=>by
 refine ws f142 15 [.tmp 6] t3 ?_
 intro r'; unfold vR
 refine go ?_
 refine gc 4 (fun b e'=>e'=⟨15,3,3,[(14,.pl (.one (.v (.sc (.bool b)))))],[]⟩) ?_ ?_
 ·intro p
  refine yF ?_ ?_
  ·refine go ?_
   exact ge [14] [] 3 rfl
  ·refine go ?_
   exact ge [14] [] 3 rfl
 ·rintro b _ rfl
  exact gz
instance W_impl_scanner_short:∀ s,Wlk X (kI s) 102 [0] [.one (.box true [.sc (.string s.text),.sc (.int .i64 s.at_),.sc (.bool s.bad)])] (fun r'=>[.one (.sc (.string r'.1))]) (fun r'=>[(0,.box true [.sc (.string r'.2.text),.sc (.int .i64 r'.2.at_),.sc (.bool r'.2.bad)])]):=fun s=>by
 refine ws f102 14 [.tmp 2] (h2 t3 (h2 t4 t153)) ?_
 intro r'; unfold kI
 refine go ?_; intro x5
 refine go ?_
 refine jn (fun e'=>∃ s_1,xX x5 s_1=some r'∧e'=⟨14,1,1,[(0,.pl (.one (.ref 0 []))),(3,.pl (.one (.v (.sc (.int .i64 x5.1)))))],[(0,.box true [.sc (.string x5.2.text),.sc (.int .i64 x5.2.at_),.sc (.bool s_1)])]⟩) ?_ ?_
 ·refine go ?_
  refine sp ?_ ?_
  ·refine go ?_
   exact je [0,3] [(0,0)] 1 fun h=>⟨_,h,rfl⟩
  ·refine go ?_
   exact je [0,3] [(0,0)] 1 fun h=>⟨_,h,rfl⟩
 ·rintro e' ⟨s_1,h,rfl⟩; refine tl h ?_; unfold xX
  refine go ?_; intro x13
  exact gz
instance W_impl_scanner_rec:∀ s,Wlk X (zG2 s) 116 [0] [.one (.box true [.sc (.string s.text),.sc (.int .i64 s.at_),.sc (.bool s.bad)])] (fun r'=>[.agg [.sc (.int .i64 r'.1.Kind),.sc (.int .i64 r'.1.Version),.sc (.string r'.1.Line)]]) (fun r'=>[(0,.box true [.sc (.string r'.2.text),.sc (.int .i64 r'.2.at_),.sc (.bool r'.2.bad)])]):=fun s=>by
 refine ws f116 26 [.cell 2 114] (h2 t3 (h2 t4 (h2 t9 (h2 t114 t153)))) ?_
 intro r'; unfold zG2
 refine go ?_
 refine l1 ?_
 refine go ?_; intro x5
 refine go ?_
 refine l1 ?_
 refine go ?_
 refine sq ?_
 refine go ?_; intro x13
 refine go ?_
 refine sp ?_ ?_
 ·exact gz
 ·refine go ?_
  refine sp ?_ ?_
  ·refine go ?_; intro x23
   exact gz
  ·refine go ?_; intro x8
   exact gz
instance W_impl_scanner_done:∀ s,Wlk X (zE3 s) 104 [] [.one (.box false [.sc (.string s.text),.sc (.int .i64 s.at_),.sc (.bool s.bad)])] (fun r'=>[.one (.sc (.bool r'))]) (fun r'=>[]):=fun s=>by
 refine ws f104 20 [.tmp 2] (h2 t3 (h2 t4 (h2 t9 t153))) ?_
 intro r'; unfold zE3
 refine go ?_
 refine rq ?_
 refine go ?_
 refine qc 11 (fun b e'=>e'=⟨20,1,1,[(19,.pl (.one (.v (.sc (.bool b)))))],[]⟩) ?_ ?_
 ·intro p
  refine quV_spL ?_ ?_
  ·refine go ?_
   exact ge [19] [] 1 rfl
  ·refine go ?_
   exact ge [19] [] 1 rfl
 ·rintro b _ rfl
  exact gz
instance W_impl_ascends:∀ list_ below,Wlk X (zN5 list_ below) 182 [] [.one (.list false 1 (List.map (rK .i64) list_)),.one (.sc (.int .i64 below))] (fun r'=>[.one (.sc (.bool r'))]) (fun r'=>[]):=fun list_ below=>by
 refine ws f182 33 [.tmp 4] (h2 t3 (h2 t39 qI)) ?_
 intro r'; unfold zN5
 refine go ?_
 refine jn (fun e'=>qB3=some r'∧e'=⟨33,2,2,[],[]⟩) ?_ ?_
 ·refine go ?_
  refine lp (fun x9 e'=>e'=⟨33,2,2,[(0,.pl (.one (.v (.list false 1 (List.map (rK .i64) list_))))),(1,.pl (.one (.v (.sc (.int .i64 below))))),(7,.pl (.one (.v (.list false 1 (List.map (rK .i64) list_))))),(8,.pl (.one (.v (.sc (.int .i64 (list_.length:Int)))))),(9,.pl (.one (.v (.sc (.int .i64 x9)))))],[]⟩) [0,1,7,8,9] [] 2 rfl ?_
  rintro x9 _ rfl y1'
  change Tl _ (kD list_ below x9) _ _; unfold kD
  refine go ?_
  refine sq ?_
  refine go ?_
  refine sp ?_ ?_
  ·refine go ?_
   refine sq ?_
   refine go ?_; intro x v'
   refine go ?_; intro x17
   refine go ?_
   refine gc 12 (fun b e'=>e'=⟨33,2,2,[(0,.pl (.one (.v (.list false 1 (List.map (rK .i64) list_))))),(1,.pl (.one (.v (.sc (.int .i64 below))))),(7,.pl (.one (.v (.list false 1 (List.map (rK .i64) list_))))),(8,.pl (.one (.v (.sc (.int .i64 (list_.length:Int)))))),(9,.pl (.one (.v (.sc (.int .i64 x9))))),(31,.pl (.one (.v (.sc (.bool b)))))],[]⟩) ?_ ?_
   ·intro p
    refine qS ?_ ?_
    ·refine go ?_
     exact ge [0,1,7,8,9,31] [] 2 rfl
    ·refine go ?_
     refine gc 8 (fun b_1 e'=>e'=⟨33,2,2,[(0,.pl (.one (.v (.list false 1 (List.map (rK .i64) list_))))),(1,.pl (.one (.v (.sc (.int .i64 below))))),(7,.pl (.one (.v (.list false 1 (List.map (rK .i64) list_))))),(8,.pl (.one (.v (.sc (.int .i64 (list_.length:Int)))))),(9,.pl (.one (.v (.sc (.int .i64 x9))))),(19,.pl (.one (.v (.sc (.bool false))))),(20,.pl (.one (.v (.sc (.int .i64 x9))))),(21,.pl (.one (.v (.sc (.bool (decide (x9 > 0))))))),(30,.pl (.one (.v (.sc (.bool b_1)))))],[]⟩) ?_ ?_
     ·intro p
      refine yF ?_ ?_
      ·refine go ?_; intro x_1 v'
       refine go ?_
       exact ge [0,1,7,8,9,19,20,21,30] [] 2 rfl
      ·refine go ?_
       exact ge [0,1,7,8,9,19,20,21,30] [] 2 rfl
     ·rintro b_1 _ rfl
      refine go ?_
      exact ge [0,1,7,8,9,31] [] 2 rfl
   ·rintro b _ rfl
    refine go ?_
    refine sp ?_ ?_
    ·exact gz
    ·refine go ?_
     exact bk [0,1,7,8,9] [] 2 rfl
  ·refine go ?_
   exact je [] [] 2 fun h=>⟨h,rfl⟩
 ·rintro e' ⟨h,rfl⟩; refine tl h ?_; unfold qB3
  exact gz
instance W_impl_GraphOk:∀ parents,Wlk X (zP4 parents) 70 [] [.one (.list false 1 (List.map (rL false 1 (rK .i64)) parents))] (fun r'=>[.one (.sc (.bool r'))]) (fun r'=>[]):=fun parents=>by
 refine ws f70 25 [.tmp 2] (h2 t3 (h2 t24 (h2 t39 (h2 jJ qI)))) ?_
 intro r'; unfold zP4
 refine go ?_
 refine jn (fun e'=>zT4 parents=some r'∧e'=⟨25,1,1,[(0,.pl (.one (.v (.list false 1 (List.map (rL false 1 (rK .i64)) parents)))))],[]⟩) ?_ ?_
 ·refine go ?_
  refine lp (fun x7 e'=>e'=⟨25,1,1,[(0,.pl (.one (.v (.list false 1 (List.map (rL false 1 (rK .i64)) parents))))),(5,.pl (.one (.v (.list false 1 (List.map (rL false 1 (rK .i64)) parents))))),(6,.pl (.one (.v (.sc (.int .i64 (parents.length:Int)))))),(7,.pl (.one (.v (.sc (.int .i64 x7)))))],[]⟩) [0,5,6,7] [] 1 rfl ?_
  rintro x7 _ rfl y1'
  change Tl _ (xZ parents x7) _ _; unfold xZ
  refine go ?_
  refine sq ?_
  refine go ?_
  refine sp ?_ ?_
  ·refine go ?_
   refine sq ?_
   refine go ?_; intro x v'
   refine go ?_
   refine gc 5 (fun b e'=>e'=⟨25,1,1,[(0,.pl (.one (.v (.list false 1 (List.map (rL false 1 (rK .i64)) parents))))),(5,.pl (.one (.v (.list false 1 (List.map (rL false 1 (rK .i64)) parents))))),(6,.pl (.one (.v (.sc (.int .i64 (parents.length:Int)))))),(7,.pl (.one (.v (.sc (.int .i64 x7))))),(20,.pl (.one (.v (.sc (.bool b)))))],[]⟩) ?_ ?_
   ·intro p
    refine qS ?_ ?_
    ·refine go ?_
     exact ge [0,5,6,7,20] [] 1 rfl
    ·refine go ?_; intro x18
     refine go ?_
     exact ge [0,5,6,7,20] [] 1 rfl
   ·rintro b _ rfl
    refine go ?_
    refine sp ?_ ?_
    ·exact gz
    ·refine go ?_
     exact bk [0,5,6,7] [] 1 rfl
  ·refine go ?_
   exact je [0] [] 1 fun h=>⟨h,rfl⟩
 ·rintro e' ⟨h,rfl⟩; refine tl h ?_; unfold zT4
  exact gz
theorem qK1 (s:List Int) (r':List Int) (h0':uI s=some r'):Fn X 153 [.one (.list false 1 (List.map (rK .i64) s))] [.one (.list true 1 (List.map (rK .i64) r'))] []:=by
 have H':=And.intro t3 (And.intro t39 (qI))
 unfold uI at h0'
 refine Fn.start (fn:=f153) (N:=8) (res:=[.tmp 2]) rfl rfl rfl rfl rfl (by simp) ?_
 refine enterG H' ?_
 refine zY6 ?_
 refine qD3 ?_
 refine ops H' ?_
 refine opsN ?_
 refine zY6 ?_
 refine zY6 ?_
 refine qD3 ?_
 refine ops H' ?_
 refine opsV_nilEq H' (fun b' hb'=>?_)
 refine opsN ?_
 refine wpV_split (fun hc'=>?_) (fun hc'=>?_)
 ·have hs':s=[]:=by simpa using hb' hc'
  subst hs'
  obtain rfl:r'=[]:=by simpa [qE] using h0'.symm
  refine zY6 ?_
  refine qD3 ?_
  refine ops H' ?_
  refine opsN ?_
  refine retN ?_
  exact outG H' rfl rfl
 ·refine skipN ?_
  refine zY6 ?_
  refine qD3 ?_
  have H':=And.intro (appz_f (rK .i64) h0') H'
  refine ops H' ?_
  refine opsN ?_
  refine retN ?_
  exact outG H' rfl rfl
instance:∀ s,Wlk X (uI s) 153 [] [.one (.list false 1 (List.map (rK .i64) s))] (fun r'=>[.one (.list true 1 (List.map (rK .i64) r'))]) (fun r'=>[]):=fun s=>⟨fun r' h=>qK1 s r' h⟩
instance W_impl_copyGraph:∀ parents,Wlk X (zP5 parents) 71 [] [.one (.list false 1 (List.map (rL false 1 (rK .i64)) parents))] (fun r'=>[.one (.list true 1 (List.map (rL true 1 (rK .i64)) r'))]) (fun r'=>[]):=fun parents=>by
 refine ws f71 19 [.tmp 2] (h2 t3 (h2 t24 (h2 t39 (h2 jJ qI)))) ?_
 intro r'; unfold zP5
 refine go ?_
 refine l1 ?_
 refine go ?_
 refine l1 ?_
 refine go ?_
 refine jn (fun e'=>∃ out_,zM3 out_=some r'∧e'=⟨19,1,2,[(3,.pl (.one (.ref 1 [])))],[(1,.list true 1 (List.map (rL true 1 (rK .i64)) out_))]⟩) ?_ ?_
 ·refine go ?_
  refine lp (fun s' e'=>∃ x8 out__1,s'=(x8,out__1)∧e'=⟨19,1,2,[(3,.pl (.one (.ref 1 []))),(6,.pl (.one (.v (.list false 1 (List.map (rL false 1 (rK .i64)) parents))))),(7,.pl (.one (.v (.sc (.int .i64 (parents.length:Int)))))),(8,.pl (.one (.v (.sc (.int .i64 x8)))))],[(1,.list true 1 (List.map (rL true 1 (rK .i64)) out__1))]⟩) [3,6,7,8] [(2,1)] 2 ⟨_,_,rfl,rfl⟩ ?_
  rintro s' _ ⟨x8,out__1,rfl,rfl⟩ y1'
  change Tl _ (uM parents x8 out__1) _ _; unfold uM
  refine go ?_
  refine sq ?_
  refine go ?_
  refine sp ?_ ?_
  ·refine go ?_
   refine sq ?_
   refine go ?_; intro x v'
   refine go ?_; intro x14
   refine go ?_; intro l v'
   refine go ?_
   exact bk [3,6,7,8] [(1,1)] 2 ⟨_,_,rfl,rfl⟩
  ·refine go ?_
   exact je [3] [(1,1)] 2 fun h=>⟨_,h,rfl⟩
 ·rintro e' ⟨out_,h,rfl⟩; refine tl h ?_; unfold zM3
  exact gz
instance W_slices_Index_int_int:∀ s v,Wlk X (kP s v) 183 [] [.one (.list false 1 (List.map (rK .i64) s)),.one (.sc (.int .i64 v))] (fun r'=>[.one (.sc (.int .i64 r'))]) (fun r'=>[]):=fun s v=>by
 refine ws f183 19 [.tmp 4] (h2 t3 (h2 t39 qI)) ?_
 intro r'; unfold kP
 refine go ?_
 refine jn (fun e'=>zH5=some r'∧e'=⟨19,2,2,[],[]⟩) ?_ ?_
 ·refine go ?_
  refine lp (fun x8 e'=>e'=⟨19,2,2,[(0,.pl (.one (.v (.list false 1 (List.map (rK .i64) s))))),(1,.pl (.one (.v (.sc (.int .i64 v))))),(7,.pl (.one (.v (.sc (.int .i64 (s.length:Int)))))),(8,.pl (.one (.v (.sc (.int .i64 x8)))))],[]⟩) [0,1,7,8] [] 2 rfl ?_
  rintro x8 _ rfl y1'
  change Tl _ (jW s v x8) _ _; unfold jW
  refine go ?_
  refine sq ?_
  refine go ?_
  refine sp ?_ ?_
  ·refine go ?_
   refine sq ?_
   refine go ?_; intro x v'
   refine go ?_
   refine sp ?_ ?_
   ·exact gz
   ·refine go ?_
    exact bk [0,1,7,8] [] 2 rfl
  ·refine go ?_
   exact je [] [] 2 fun h=>⟨h,rfl⟩
 ·rintro e' ⟨h,rfl⟩; refine tl h ?_; unfold zH5
  exact gz
theorem qJ3 (s:List Int) (i:Int) (j:Int) (r':List Int) (h0':vQ s i j=some r'):Fn X 184 [.one (.list true 1 (List.map (rK .i64) s)),.one (.sc (.int .i64 i)),.one (.sc (.int .i64 j))] [.one (.list true 1 (List.map (rK .i64) r'))] []:=by
 unfold vQ at h0'
 split at h0'
 case isFalse=>cases h0'
 rename_i hs
 unfold del1 at h0'
 split at h0'
 case isFalse=>cases h0'
 rename_i hd
 obtain rfl:=zso h0'
 obtain ⟨i,rfl⟩:=Int.eq_ofNat_of_zero_le hd.1
 obtain ⟨j,rfl⟩:=Int.eq_ofNat_of_zero_le (Int.le_trans hd.1 hd.2.1)
 have:=del_fn (X:=X) (f:=184) (k:=1) (rows:=List.map ((rK .i64)) s) (i:=i) (j:=j) delRaw184 (by decide) (by omega) (by rw [List.length_map]; omega) (by rw [List.length_map]; exact hs) (by unfold qY; rw [List.all_map]; exact List.all_eq_true.2 (fun x _=>rfl))
 rw [← List.map_take,← List.map_drop,← List.map_append] at this
 exact this
instance:∀ s i j,Wlk X (vQ s i j) 184 [0] [.one (.list true 1 (List.map (rK .i64) s)),.one (.sc (.int .i64 i)),.one (.sc (.int .i64 j))] (fun r'=>[.one (.list true 1 (List.map (rK .i64) r'))]) (fun r'=>[]):=fun s i j=>⟨fun r' h=>qJ3 s i j r' h⟩
instance W_impl_walker_mark:∀ o r,Wlk X (vY o r) 72 [0] [.one (.box true [.sc (.bool o.open_),.sc (.int .i64 o.ins),.list true 1 (List.map (rK .i64) o.dels)]),.agg [.sc (.int .i64 r.Kind),.sc (.int .i64 r.Version),.sc (.string r.Line)]] (fun r'=>[.one (.sc (.bool r'.1))]) (fun r'=>[(0,.box true [.sc (.bool r'.2.open_),.sc (.int .i64 r'.2.ins),.list true 1 (List.map (rK .i64) r'.2.dels)])]):=fun o r=>by
 refine ws f72 84 [.tmp 4] (h2 t3 (h2 t4 (h2 t39 (h2 t112 (h2 t114 qI))))) ?_
 intro r'; unfold vY
 refine go ?_
 refine rq ?_
 refine go ?_; intro x12
 refine go ?_
 refine sq ?_
 refine go ?_
 refine sp ?_ ?_
 ·refine sq ?_
  refine go ?_
  refine sp ?_ ?_
  ·exact gz
  ·refine go ?_
   refine rc [0,1,2,4,5,3,6,7,8,9] ?_
   exact gz
 ·refine go ?_
  refine sp ?_ ?_
  ·refine sq ?_
   refine go ?_
   refine rq ?_
   refine go ?_
   refine qc 8 (fun b e'=>e'=⟨84,4,4,[(0,.pl (.one (.ref 0 []))),(44,.pl (.one (.v (.sc (.bool b)))))],[(0,.box true [.sc (.bool o.open_),.sc (.int .i64 o.ins),.list true 1 (List.map (rK .i64) o.dels)])]⟩) ?_ ?_
   ·intro p
    refine zA3 ?_ ?_
    ·refine go ?_
     exact ge [0,44] [(0,0)] 4 rfl
    ·refine go ?_
     exact ge [0,44] [(0,0)] 4 rfl
   ·rintro b _ rfl
    refine go ?_
    refine sp ?_ ?_
    ·exact gz
    ·exact gz
  ·refine go ?_
   refine sp ?_ ?_
   ·refine sq ?_
    refine go ?_
    refine sp ?_ ?_
    ·exact gz
    ·refine go ?_
     refine rc [0,1,2,3,5,4,6,7,8,9,10,11] ?_
     refine go ?_; intro l v'
     exact gz
   ·refine go ?_
    refine sp ?_ ?_
    ·refine sq ?_
     refine go ?_
     refine sp ?_ ?_
     ·exact gz
     ·refine go ?_; intro x75
      exact gz
    ·refine go ?_
     refine sp ?_ ?_
     ·exact gz
     ·exact gz
instance W_impl_isPlace:∀ n size,Wlk X (zN4 n size) 73 [] [.one (.sc (.int .i64 n)),.one (.sc (.int .i64 size))] (fun r'=>[.one (.sc (.bool r'))]) (fun r'=>[]):=fun n size=>by
 refine ws f73 9 [.tmp 4] t3 ?_
 intro r'; unfold zN4
 refine go ?_; intro x8
 exact gz
instance W_slices_Values_int_int:∀ s,Wlk X (zN7 s) 75 [] [.one (.list false 1 (List.map (rK .i64) s))] (fun r'=>[.one (.fn 187 [.box false [.list false 1 (List.map (rK .i64) r')]])]) (fun _=>[]):=fun s=>⟨fun r' h=>by
 obtain rfl:=zso h
 exact values_fn sortRaw75⟩
instance W_slices_Sorted_int:∀ s,Wlk X (zD4 s) 74 [] [.one (.fn 187 [.box false [.list false 1 (List.map (rK .i64) s)]])] (fun r'=>[.one (.list true 1 (List.map (rK .i64) r'))]) (fun _=>[]):=fun s=>⟨fun r' h=>by
 unfold zD4 at h
 split at h
 case isFalse=>cases h
 rename_i hs
 obtain rfl:=zso h
 exact sorted_fn sortRaw75 hs⟩
instance W_impl_unionOf:∀ closed list_,Wlk X (zP1 closed list_) 189 [] [.one (.list false 1 (List.map (rK .u64) closed)),.one (.list false 1 (List.map (rK .i64) list_))] (fun r'=>[.one (.sc (.int .u64 r'))]) (fun r'=>[]):=fun closed list_=>by
 refine ws f189 22 [.tmp 4] (h2 t3 (h2 t39 (h2 t124 (h2 t125 (h2 qI R_u64))))) ?_
 intro r'; unfold zP1
 refine go ?_
 refine jn (fun e'=>∃ s,qB5 s=some r'∧e'=⟨22,2,2,[(5,.pl (.one (.v (.sc (.int .u64 s)))))],[]⟩) ?_ ?_
 ·refine go ?_
  refine lp (fun s' e'=>∃ s_1 x10,s'=(s_1,x10)∧e'=⟨22,2,2,[(0,.pl (.one (.v (.list false 1 (List.map (rK .u64) closed))))),(5,.pl (.one (.v (.sc (.int .u64 s_1))))),(8,.pl (.one (.v (.list false 1 (List.map (rK .i64) list_))))),(9,.pl (.one (.v (.sc (.int .i64 (list_.length:Int)))))),(10,.pl (.one (.v (.sc (.int .i64 x10)))))],[]⟩) [0,5,8,9,10] [] 2 ⟨_,_,rfl,rfl⟩ ?_
  rintro s' _ ⟨s_1,x10,rfl,rfl⟩ y1'
  change Tl _ (yK closed list_ s_1 x10) _ _; unfold yK
  refine go ?_
  refine sq ?_
  refine go ?_
  refine sp ?_ ?_
  ·refine go ?_
   refine sq ?_
   refine go ?_; intro x v'
   refine go ?_; intro x_1 v'
   refine go ?_
   exact bk [0,5,8,9,10] [] 2 ⟨_,_,rfl,rfl⟩
  ·refine go ?_
   exact je [5] [] 2 fun h=>⟨_,h,rfl⟩
 ·rintro e' ⟨s,h,rfl⟩; refine tl h ?_; unfold qB5
  exact gz
instance W_impl_closures:∀ parents,Wlk X (zH9 parents) 78 [] [.one (.list false 1 (List.map (rL false 1 (rK .i64)) parents))] (fun r'=>[.one (.list true 1 (List.map (rK .u64) r'))]) (fun r'=>[]):=fun parents=>by
 refine ws f78 28 [.tmp 2] (h2 t3 (h2 t24 (h2 t39 (h2 t124 (h2 t125 (h2 t237 (h2 jJ (h2 qI R_u64)))))))) ?_
 intro r'; unfold zH9
 refine go ?_
 refine l1 ?_
 refine go ?_; intro x8 v'
 refine go ?_
 refine jn (fun e'=>∃ out_,zZ8 out_=some r'∧e'=⟨28,1,2,[(3,.pl (.one (.ref 1 [])))],[(1,.list true 1 (List.map (rK .u64) out_))]⟩) ?_ ?_
 ·refine go ?_
  refine lp (fun s' e'=>∃ x11 out__1,s'=(x11,out__1)∧e'=⟨28,1,2,[(3,.pl (.one (.ref 1 []))),(9,.pl (.one (.v (.list false 1 (List.map (rL false 1 (rK .i64)) parents))))),(10,.pl (.one (.v (.sc (.int .i64 (parents.length:Int)))))),(11,.pl (.one (.v (.sc (.int .i64 x11)))))],[(1,.list true 1 (List.map (rK .u64) out__1))]⟩) [3,9,10,11] [(2,1)] 2 ⟨_,_,rfl,rfl⟩ ?_
  rintro s' _ ⟨x11,out__1,rfl,rfl⟩ y1'
  change Tl _ (vT parents x11 out__1) _ _; unfold vT
  refine go ?_
  refine sq ?_
  refine go ?_
  refine sp ?_ ?_
  ·refine go ?_
   refine sq ?_
   refine go ?_; intro x v'
   refine go ?_; intro x20
   refine go ?_; intro u v'
   refine go ?_; intro x_1 v'
   refine go ?_
   exact bk [3,9,10,11] [(1,1)] 2 ⟨_,_,rfl,rfl⟩
  ·refine go ?_
   exact je [3] [(1,1)] 2 fun h=>⟨_,h,rfl⟩
 ·rintro e' ⟨out_,h,rfl⟩; refine tl h ?_; unfold zZ8
  exact gz
theorem qM7 (s:ByteArray) (x:ByteArray) (r':Bool) (h0':strings_Contains s x=some r'):Fn X 267 [.one (.sc (.string s)),.one (.sc (.string x))] [.one (.sc (.bool r'))] []:=by
 unfold strings_Contains at h0'
 split at h0'
 case isFalse=>cases h0'
 rename_i hs
 obtain rfl:=zso h0'
 exact Fn_pureB ⟨_,Go.Proofs.Tryz.func267,rfl,rfl⟩ (fun w hg=>by
  obtain ⟨y,hy,hy2⟩:=hg _ _ (by rfl:X.G (Go.Proofs.Tryz.lays144_ren.g 1)=some isNum)
  obtain ⟨m,hm⟩:=isNum_cell hy hy2
  exact Go.Proofs.Any.strings_Contains {Go.Proofs.Tryz.lays144 with} s x m w hs hm)
instance:∀ s x,Wlk X (strings_Contains s x) 267 [] [.one (.sc (.string s)),.one (.sc (.string x))] (fun r'=>[.one (.sc (.bool r'))]) (fun r'=>[]):=fun s x=>⟨fun r' h=>qM7 s x r' h⟩
instance W_impl_LineOk:∀ line,Wlk X (zX9 line) 221 [] [.one (.sc (.string line))] (fun r'=>[.one (.sc (.bool r'))]) (fun r'=>[]):=fun line=>by
 refine ws f221 11 [.tmp 2] (h2 t3 t9) ?_
 intro r'; unfold zX9
 refine go ?_
 refine gc 4 (fun b e'=>e'=⟨11,1,1,[(10,.pl (.one (.v (.sc (.bool b)))))],[]⟩) ?_ ?_
 ·intro p
  refine yF ?_ ?_
  ·refine go ?_; intro x8
   refine go ?_
   exact ge [10] [] 1 rfl
  ·refine go ?_
   exact ge [10] [] 1 rfl
 ·rintro b _ rfl
  exact gz
instance W_impl_set_has:∀ s v,Wlk X (zM4 s v) 190 [] [.one (.sc (.int .u64 s)),.one (.sc (.int .i64 v))] (fun r'=>[.one (.sc (.bool r'))]) (fun r'=>[]):=fun s v=>by
 refine ws f190 15 [.tmp 4] (h2 t3 (h2 t124 t237)) ?_
 intro r'; unfold zM4
 refine go ?_; intro x6
 refine go ?_
 refine gc 7 (fun b e'=>e'=⟨15,2,2,[(14,.pl (.one (.v (.sc (.bool b)))))],[]⟩) ?_ ?_
 ·intro p
  refine yF ?_ ?_
  ·refine go ?_; intro u v'
   refine go ?_
   exact ge [14] [] 2 rfl
  ·refine go ?_
   exact ge [14] [] 2 rfl
 ·rintro b _ rfl
  exact gz
instance W_impl_setOf:∀ list_,Wlk X (qA9 list_) 83 [] [.one (.list false 1 (List.map (rK .i64) list_))] (fun r'=>[.one (.sc (.int .u64 r'))]) (fun r'=>[]):=fun list_=>by
 refine ws f83 21 [.tmp 2] (h2 t3 (h2 t39 (h2 t124 (h2 t237 qI)))) ?_
 intro r'; unfold qA9
 refine go ?_
 refine jn (fun e'=>∃ s,qG8 s=some r'∧e'=⟨21,1,1,[(3,.pl (.one (.v (.sc (.int .u64 s)))))],[]⟩) ?_ ?_
 ·refine go ?_
  refine lp (fun s' e'=>∃ s_1 x8,s'=(s_1,x8)∧e'=⟨21,1,1,[(3,.pl (.one (.v (.sc (.int .u64 s_1))))),(6,.pl (.one (.v (.list false 1 (List.map (rK .i64) list_))))),(7,.pl (.one (.v (.sc (.int .i64 (list_.length:Int)))))),(8,.pl (.one (.v (.sc (.int .i64 x8)))))],[]⟩) [3,6,7,8] [] 1 ⟨_,_,rfl,rfl⟩ ?_
  rintro s' _ ⟨s_1,x8,rfl,rfl⟩ y1'
  change Tl _ (uP list_ s_1 x8) _ _; unfold uP
  refine go ?_
  refine sq ?_
  refine go ?_
  refine sp ?_ ?_
  ·refine go ?_
   refine sq ?_
   refine go ?_; intro x v'
   refine go ?_; intro x13
   refine go ?_
   refine sp ?_ ?_
   ·refine go ?_; intro u v'
    refine go ?_
    exact bk [3,6,7,8] [] 1 ⟨_,_,rfl,rfl⟩
   ·refine go ?_
    exact bk [3,6,7,8] [] 1 ⟨_,_,rfl,rfl⟩
  ·refine go ?_
   exact je [3] [] 1 fun h=>⟨_,h,rfl⟩
 ·rintro e' ⟨s,h,rfl⟩; refine tl h ?_; unfold qG8
  exact gz
instance W_impl_Body_isLive:∀ b s,Wlk X (vX b s) 193 [] [.agg [.sc (.string b.Line),.sc (.int .i64 b.Ins),.sc (.int .i64 b.Ord),.list false 1 (List.map (rK .i64) b.Dels)],.one (.sc (.int .u64 s))] (fun r'=>[.one (.sc (.bool r'))]) (fun r'=>[]):=fun b s=>by
 refine ws f193 17 [.tmp 4] (h2 t3 (h2 t39 (h2 t46 (h2 t124 qI)))) ?_
 intro r'; unfold vX
 refine go ?_; intro x8
 refine go ?_
 refine gc 7 (fun b_1 e'=>e'=⟨17,5,5,[(16,.pl (.one (.v (.sc (.bool b_1)))))],[]⟩) ?_ ?_
 ·intro p
  refine yF ?_ ?_
  ·refine go ?_; intro x12
   refine go ?_
   exact ge [16] [] 5 rfl
  ·refine go ?_
   exact ge [16] [] 5 rfl
 ·rintro b_1 _ rfl
  exact gz
instance W_impl_Weave_liveIn:∀ w s,Wlk X (yE w s) 82 [] [.one (.box false [.list false 1 (List.map (rL false 1 (rK .i64)) w.Parents),.list false 4 (List.map (zA false) w.Bodies)]),.one (.sc (.int .u64 s))] (fun r'=>[.one (.list true 1 (List.map (rK .i64) r'))]) (fun r'=>[]):=fun w s=>by
 refine ws f82 27 [.tmp 4] (h2 t3 (h2 t25 (h2 t27 (h2 t39 (h2 t46 (h2 jJ (h2 zM qI))))))) ?_
 intro r'; unfold yE
 refine go ?_
 refine l1 ?_
 refine go ?_
 refine l1 ?_
 refine go ?_
 refine jn (fun e'=>∃ out_,zQ7 out_=some r'∧e'=⟨27,2,3,[(5,.pl (.one (.ref 2 [])))],[(2,.list true 1 (List.map (rK .i64) out_))]⟩) ?_ ?_
 ·refine go ?_
  refine lp (fun s' e'=>∃ x13 out__1,s'=(x13,out__1)∧e'=⟨27,2,3,[(1,.pl (.one (.v (.sc (.int .u64 s))))),(5,.pl (.one (.ref 2 []))),(11,.pl (.one (.v (.list false 4 (List.map (zA false) w.Bodies))))),(12,.pl (.one (.v (.sc (.int .i64 (w.Bodies.length:Int)))))),(13,.pl (.one (.v (.sc (.int .i64 x13)))))],[(2,.list true 1 (List.map (rK .i64) out__1))]⟩) [1,5,11,12,13] [(3,2)] 3 ⟨_,_,rfl,rfl⟩ ?_
  rintro s' _ ⟨x13,out__1,rfl,rfl⟩ y1'
  change Tl _ (xF w s x13 out__1) _ _; unfold xF
  refine go ?_
  refine sq ?_
  refine go ?_
  refine sp ?_ ?_
  ·refine go ?_
   refine sq ?_
   refine go ?_; intro x v'
   refine go ?_
   refine l1 ?_
   refine go ?_; intro x20
   refine go ?_
   refine sp ?_ ?_
   ·refine go ?_; intro l v'
    refine go ?_
    exact bk [1,5,11,12,13] [(2,2)] 3 ⟨_,_,rfl,rfl⟩
   ·refine go ?_
    exact bk [1,5,11,12,13] [(2,2)] 3 ⟨_,_,rfl,rfl⟩
  ·refine go ?_
   exact je [5] [(2,2)] 3 fun h=>⟨_,h,rfl⟩
 ·rintro e' ⟨out_,h,rfl⟩; refine tl h ?_; unfold zQ7
  exact gz
instance W_impl_bodiesOk:∀ w closed,Wlk X (zI9 w closed) 134 [] [.agg [.list false 1 (List.map (rL false 1 (rK .i64)) w.Parents),.list false 4 (List.map (zA false) w.Bodies)],.one (.list false 1 (List.map (rK .u64) closed))] (fun r'=>[.one (.sc (.bool r'))]) (fun r'=>[]):=fun w closed=>by
 refine ws f134 97 [.tmp 4] (h2 t3 (h2 t9 (h2 t24 (h2 t25 (h2 t27 (h2 t39 (h2 t46 (h2 t124 (h2 t125 (h2 jJ (h2 zM (h2 qI R_u64)))))))))))) ?_
 intro r'; unfold zI9
 refine go ?_; intro x14 v'
 refine go ?_
 refine jn (fun e'=>∃ born,zH1 w closed born=some r'∧e'=⟨97,3,5,[(1,.pl (.one (.v (.list false 1 (List.map (rK .u64) closed))))),(2,.pl (.one (.ref 3 []))),(5,.pl (.one (.ref 4 [])))],[(3,.box true [.list false 1 (List.map (rL false 1 (rK .i64)) w.Parents),.list false 4 (List.map (zA false) w.Bodies)]),(4,.list true 1 (List.map (rK .i64) born))]⟩) ?_ ?_
 ·refine go ?_
  refine lp (fun s' e'=>∃ x18 born_1,s'=(x18,born_1)∧e'=⟨97,3,5,[(1,.pl (.one (.v (.list false 1 (List.map (rK .u64) closed))))),(2,.pl (.one (.ref 3 []))),(5,.pl (.one (.ref 4 []))),(16,.pl (.one (.v (.list false 4 (List.map (zA false) w.Bodies))))),(17,.pl (.one (.v (.sc (.int .i64 (w.Bodies.length:Int)))))),(18,.pl (.one (.v (.sc (.int .i64 x18)))))],[(3,.box true [.list false 1 (List.map (rL false 1 (rK .i64)) w.Parents),.list false 4 (List.map (zA false) w.Bodies)]),(4,.list true 1 (List.map (rK .i64) born_1))]⟩) [1,2,5,16,17,18] [(3,3),(4,4)] 5 ⟨_,_,rfl,rfl⟩ ?_
  rintro s' _ ⟨x18,born_1,rfl,rfl⟩ y1'
  change Tl _ (jN w closed x18 born_1) _ _; unfold jN
  refine go ?_
  refine sq ?_
  refine go ?_
  refine sp ?_ ?_
  ·refine go ?_
   refine jn (fun e'=>∃ born_2,zQ4 x18 born_2=some y1'∧e'=⟨97,3,5,[(1,.pl (.one (.v (.list false 1 (List.map (rK .u64) closed))))),(2,.pl (.one (.ref 3 []))),(5,.pl (.one (.ref 4 []))),(16,.pl (.one (.v (.list false 4 (List.map (zA false) w.Bodies))))),(17,.pl (.one (.v (.sc (.int .i64 (w.Bodies.length:Int)))))),(18,.pl (.one (.v (.sc (.int .i64 x18)))))],[(3,.box true [.list false 1 (List.map (rL false 1 (rK .i64)) w.Parents),.list false 4 (List.map (zA false) w.Bodies)]),(4,.list true 1 (List.map (rK .i64) born_2))]⟩) ?_ ?_
   ·refine go ?_; intro x_2 v'
    refine go ?_
    refine l1 ?_
    refine go ?_
    refine sq ?_
    refine go ?_
    refine rq ?_
    refine go ?_; intro x24
    refine go ?_
    refine qc 7 (fun b_1 e'=>e'=⟨97,3,6,[(1,.pl (.one (.v (.list false 1 (List.map (rK .u64) closed))))),(2,.pl (.one (.ref 3 []))),(5,.pl (.one (.ref 4 []))),(7,.pl (.one (.ref 5 []))),(16,.pl (.one (.v (.list false 4 (List.map (zA false) w.Bodies))))),(17,.pl (.one (.v (.sc (.int .i64 (w.Bodies.length:Int)))))),(18,.pl (.one (.v (.sc (.int .i64 x18))))),(33,.pl (.one (.v (.sc (.bool b_1)))))],[(3,.box true [.list false 1 (List.map (rL false 1 (rK .i64)) w.Parents),.list false 4 (List.map (zA false) w.Bodies)]),(4,.list true 1 (List.map (rK .i64) born_1)),(5,.box true [.sc (.string x_2.Line),.sc (.int .i64 x_2.Ins),.sc (.int .i64 x_2.Ord),.list false 1 (List.map (rK .i64) x_2.Dels)])]⟩) ?_ ?_
    ·intro p
     refine zA3 ?_ ?_
     ·refine go ?_
      exact ge [1,2,5,7,16,17,18,33] [(3,3),(4,4),(5,5)] 6 rfl
     ·refine go ?_; intro x31
      refine go ?_
      exact ge [1,2,5,7,16,17,18,33] [(3,3),(4,4),(5,5)] 6 rfl
    ·rintro b_1 _ rfl
     refine go ?_
     refine qc 9 (fun b_2 e'=>e'=⟨97,3,6,[(1,.pl (.one (.v (.list false 1 (List.map (rK .u64) closed))))),(2,.pl (.one (.ref 3 []))),(5,.pl (.one (.ref 4 []))),(7,.pl (.one (.ref 5 []))),(16,.pl (.one (.v (.list false 4 (List.map (zA false) w.Bodies))))),(17,.pl (.one (.v (.sc (.int .i64 (w.Bodies.length:Int)))))),(18,.pl (.one (.v (.sc (.int .i64 x18))))),(43,.pl (.one (.v (.sc (.bool b_2)))))],[(3,.box true [.list false 1 (List.map (rL false 1 (rK .i64)) w.Parents),.list false 4 (List.map (zA false) w.Bodies)]),(4,.list true 1 (List.map (rK .i64) born_1)),(5,.box true [.sc (.string x_2.Line),.sc (.int .i64 x_2.Ins),.sc (.int .i64 x_2.Ord),.list false 1 (List.map (rK .i64) x_2.Dels)])]⟩) ?_ ?_
     ·intro p
      refine zA3 ?_ ?_
      ·refine go ?_
       exact ge [1,2,5,7,16,17,18,43] [(3,3),(4,4),(5,5)] 6 rfl
      ·refine go ?_; intro x_3 v'
       refine go ?_
       exact ge [1,2,5,7,16,17,18,43] [(3,3),(4,4),(5,5)] 6 rfl
     ·rintro b_2 _ rfl
      refine go ?_
      refine qc 7 (fun b_3 e'=>e'=⟨97,3,6,[(1,.pl (.one (.v (.list false 1 (List.map (rK .u64) closed))))),(2,.pl (.one (.ref 3 []))),(5,.pl (.one (.ref 4 []))),(7,.pl (.one (.ref 5 []))),(16,.pl (.one (.v (.list false 4 (List.map (zA false) w.Bodies))))),(17,.pl (.one (.v (.sc (.int .i64 (w.Bodies.length:Int)))))),(18,.pl (.one (.v (.sc (.int .i64 x18))))),(51,.pl (.one (.v (.sc (.bool b_3)))))],[(3,.box true [.list false 1 (List.map (rL false 1 (rK .i64)) w.Parents),.list false 4 (List.map (zA false) w.Bodies)]),(4,.list true 1 (List.map (rK .i64) born_1)),(5,.box true [.sc (.string x_2.Line),.sc (.int .i64 x_2.Ins),.sc (.int .i64 x_2.Ord),.list false 1 (List.map (rK .i64) x_2.Dels)])]⟩) ?_ ?_
      ·intro p
       refine zA3 ?_ ?_
       ·refine go ?_
        exact ge [1,2,5,7,16,17,18,51] [(3,3),(4,4),(5,5)] 6 rfl
       ·refine go ?_; intro x49
        refine go ?_
        exact ge [1,2,5,7,16,17,18,51] [(3,3),(4,4),(5,5)] 6 rfl
      ·rintro b_3 _ rfl
       refine go ?_
       refine sp ?_ ?_
       ·exact gz
       ·refine go ?_; intro x_4 v'
        refine go ?_
        refine lp (fun x62 e'=>e'=⟨97,3,6,[(1,.pl (.one (.v (.list false 1 (List.map (rK .u64) closed))))),(2,.pl (.one (.ref 3 []))),(5,.pl (.one (.ref 4 []))),(7,.pl (.one (.ref 5 []))),(16,.pl (.one (.v (.list false 4 (List.map (zA false) w.Bodies))))),(17,.pl (.one (.v (.sc (.int .i64 (w.Bodies.length:Int)))))),(18,.pl (.one (.v (.sc (.int .i64 x18))))),(60,.pl (.one (.v (.list false 1 (List.map (rK .i64) x_2.Dels))))),(61,.pl (.one (.v (.sc (.int .i64 (x_2.Dels.length:Int)))))),(62,.pl (.one (.v (.sc (.int .i64 x62)))))],[(3,.box true [.list false 1 (List.map (rL false 1 (rK .i64)) w.Parents),.list false 4 (List.map (zA false) w.Bodies)]),(4,.list true 1 (List.map (rK .i64) (born_1.set x_2.Ins.toNat (wk .i64 (x_4+1))))),(5,.box true [.sc (.string x_2.Line),.sc (.int .i64 x_2.Ins),.sc (.int .i64 x_2.Ord),.list false 1 (List.map (rK .i64) x_2.Dels)])]⟩) [1,2,5,7,16,17,18,60,61,62] [(3,3),(4,4),(5,5)] 6 rfl ?_
        rintro x62 _ rfl y2'
        change Tl _ (uZ w closed x_2 x62) _ _; unfold uZ
        refine go ?_
        refine sq ?_
        refine go ?_
        refine sp ?_ ?_
        ·refine go ?_
         refine sq ?_
         refine go ?_; intro x_5 v'
         refine go ?_; intro x_6 v'
         refine go ?_
         refine rq ?_
         refine go ?_; intro x73
         refine go ?_; intro x74
         refine go ?_
         refine sp ?_ ?_
         ·exact gz
         ·refine go ?_
          exact bk [1,2,5,7,16,17,18,60,61,62] [(3,3),(4,4),(5,5)] 6 rfl
        ·refine go ?_
         exact je [1,2,5,16,17,18] [(3,3),(4,4)] 5 fun h=>⟨_,h,rfl⟩
   ·rintro e' ⟨born_2,h,rfl⟩; refine tl h ?_; unfold zQ4
    refine go ?_
    exact bk [1,2,5,16,17,18] [(3,3),(4,4)] 5 ⟨_,_,rfl,rfl⟩
  ·refine go ?_
   exact je [1,2,5] [(3,3),(4,4)] 5 fun h=>⟨_,h,rfl⟩
 ·rintro e' ⟨born,h,rfl⟩; refine tl h ?_; unfold zH1
  refine jn (fun e'=>zY8=some r'∧e'=⟨97,3,3,[],[]⟩) ?_ ?_
  ·refine go ?_
   refine lp (fun x80 e'=>e'=⟨97,3,5,[(2,.pl (.one (.ref 3 []))),(5,.pl (.one (.ref 4 []))),(78,.pl (.one (.v (.list false 1 (List.map (rK .u64) closed))))),(79,.pl (.one (.v (.sc (.int .i64 (closed.length:Int)))))),(80,.pl (.one (.v (.sc (.int .i64 x80)))))],[(3,.box true [.list false 1 (List.map (rL false 1 (rK .i64)) w.Parents),.list false 4 (List.map (zA false) w.Bodies)]),(4,.list true 1 (List.map (rK .i64) born))]⟩) [2,5,78,79,80] [(3,3),(4,4)] 5 rfl ?_
   rintro x80 _ rfl y1'
   change Tl _ (zA9 w closed born x80) _ _; unfold zA9
   refine go ?_
   refine sq ?_
   refine go ?_
   refine sp ?_ ?_
   ·refine go ?_
    refine sq ?_
    refine go ?_; intro x v'
    refine go ?_; intro x_1 v'
    refine go ?_
    refine gc 5 (fun b e'=>e'=⟨97,3,5,[(2,.pl (.one (.ref 3 []))),(5,.pl (.one (.ref 4 []))),(78,.pl (.one (.v (.list false 1 (List.map (rK .u64) closed))))),(79,.pl (.one (.v (.sc (.int .i64 (closed.length:Int)))))),(80,.pl (.one (.v (.sc (.int .i64 x80))))),(95,.pl (.one (.v (.sc (.bool b)))))],[(3,.box true [.list false 1 (List.map (rL false 1 (rK .i64)) w.Parents),.list false 4 (List.map (zA false) w.Bodies)]),(4,.list true 1 (List.map (rK .i64) born))]⟩) ?_ ?_
    ·intro p
     refine qS ?_ ?_
     ·refine go ?_
      exact ge [2,5,78,79,80,95] [(3,3),(4,4)] 5 rfl
     ·refine go ?_; intro x92
      refine go ?_
      exact ge [2,5,78,79,80,95] [(3,3),(4,4)] 5 rfl
    ·rintro b _ rfl
     refine go ?_
     refine sp ?_ ?_
     ·exact gz
     ·refine go ?_
      exact bk [2,5,78,79,80] [(3,3),(4,4)] 5 rfl
   ·refine go ?_
    exact je [] [] 3 fun h=>⟨h,rfl⟩
  ·rintro e' ⟨h,rfl⟩; refine tl h ?_; unfold zY8
   exact gz
instance W_impl_WeaveOk:∀ w,Wlk X (zN8 w) 41 [] [.agg [.list false 1 (List.map (rL false 1 (rK .i64)) w.Parents),.list false 4 (List.map (zA false) w.Bodies)]] (fun r'=>[.one (.sc (.bool r'))]) (fun r'=>[]):=fun w=>by
 refine ws f41 19 [.tmp 2] (h2 t3 (h2 t24 (h2 t25 (h2 t27 (h2 jJ (h2 zM (h2 qI R_u64))))))) ?_
 intro r'; unfold zN8
 refine go ?_
 refine bx ?_; intro b gh0_1_0
 refine bx ?_; intro b_1 gh1_1_0
 refine jr (fun e'=>e'=⟨19,2,2,[(2,.pl (.one (.v (.sc (.bool b_1)))))],[]⟩) ?_ ?_
 ·refine rc [0,1,2,3,4,5,6,7,8,9,10,11,12,13,14,15,16] ?_
  refine go ?_
  refine cs (fun c0=>?_) (fun c0=>?_)
  ·replace gh0_1_0:=(ifT c0).symm.trans gh0_1_0
   obtain ⟨x10,hy_x10,gh0_1_0⟩:=zbi gh0_1_0
   obtain rfl:=zso gh0_1_0
   refine go ?_
   refine cc hy_x10 ?_
   refine go ?_
   refine cs (fun c1=>?_) (fun c1=>?_)
   ·replace gh1_1_0:=(ifT c1).symm.trans gh1_1_0
    obtain ⟨x16,hy_x16,gh1_1_0⟩:=zbi gh1_1_0
    obtain ⟨x17,hy_x17,gh1_1_0⟩:=zbi gh1_1_0
    obtain rfl:=zso gh1_1_0
    refine go ?_
    refine cc hy_x16 ?_
    refine cc hy_x17 ?_
    refine go ?_
    exact gq [2] [] 2 rfl
   ·replace gh1_1_0:=(ifF c1).symm.trans gh1_1_0
    obtain rfl:=zso gh1_1_0
    refine go ?_
    exact gq [2] [] 2 rfl
  ·replace gh0_1_0:=(ifF c0).symm.trans gh0_1_0
   obtain rfl:=zso gh0_1_0
   refine go ?_
   replace gh1_1_0:=(ifF rfl).symm.trans gh1_1_0
   obtain rfl:=zso gh1_1_0
   refine go ?_
   exact gq [2] [] 2 rfl
 ·rintro e' rfl; refine cn ?_
  exact gz
instance W_slices_Contains_int_int:∀ s v,Wlk X (kL s v) 188 [] [.one (.list false 1 (List.map (rK .i64) s)),.one (.sc (.int .i64 v))] (fun r'=>[.one (.sc (.bool r'))]) (fun r'=>[]):=fun s v=>by
 refine ws f188 9 [.tmp 4] (h2 t3 qI) ?_
 intro r'; unfold kL
 refine go ?_; intro x7
 exact gz
instance W_impl_marks:∀ ins dels nextIns nextDels,Wlk X (zV6 ins dels nextIns nextDels) 181 [] [.one (.sc (.int .i64 ins)),.one (.list false 1 (List.map (rK .i64) dels)),.one (.sc (.int .i64 nextIns)),.one (.list false 1 (List.map (rK .i64) nextDels))] (fun r'=>[.one (.list true 3 (List.map (zB true) r'))]) (fun r'=>[]):=fun ins dels nextIns nextDels=>by
 refine ws f181 76 [.tmp 8] (h2 t3 (h2 t9 (h2 t30 (h2 t39 (h2 t114 (h2 xJ qI)))))) ?_
 intro r'; unfold zV6
 refine go ?_
 refine lf ?_ (fun a g=>zB5 a 3 g)
 refine go ?_
 refine lf ?_ (fun a g=>zB5 a 3 g)
 refine go ?_
 refine jn (fun e'=>∃ out_,zR0 ins dels nextIns nextDels out_=some r'∧e'=⟨76,4,5,[(0,.pl (.one (.v (.sc (.int .i64 ins))))),(1,.pl (.one (.v (.list false 1 (List.map (rK .i64) dels))))),(2,.pl (.one (.v (.sc (.int .i64 nextIns))))),(3,.pl (.one (.v (.list false 1 (List.map (rK .i64) nextDels))))),(9,.pl (.one (.ref 4 [])))],[(4,.list true 3 (List.map (zB true) out_))]⟩) ?_ ?_
 ·refine go ?_
  refine lp (fun s' e'=>∃ i out__5,s'=(i,out__5)∧e'=⟨76,4,5,[(0,.pl (.one (.v (.sc (.int .i64 ins))))),(1,.pl (.one (.v (.list false 1 (List.map (rK .i64) dels))))),(2,.pl (.one (.v (.sc (.int .i64 nextIns))))),(3,.pl (.one (.v (.list false 1 (List.map (rK .i64) nextDels))))),(9,.pl (.one (.ref 4 []))),(10,.pl (.one (.v (.sc (.int .i64 i)))))],[(4,.list true 3 (List.map (zB true) out__5))]⟩) [0,1,2,3,9,10] [(5,4)] 5 ⟨_,_,rfl,rfl⟩ ?_
  rintro s' _ ⟨i,out__5,rfl,rfl⟩ y1'
  change Tl _ (zH7 dels nextDels i out__5) _ _; unfold zH7
  refine sq ?_
  refine go ?_
  refine sp ?_ ?_
  ·refine go ?_
   refine sq ?_
   refine go ?_; intro x_1 v'
   refine go ?_; intro x25
   refine go ?_
   refine sp ?_ ?_
   ·refine go ?_; intro l_3 v'
    refine go ?_
    exact bk [0,1,2,3,9,10] [(4,4)] 5 ⟨_,_,rfl,rfl⟩
   ·refine go ?_
    exact bk [0,1,2,3,9,10] [(4,4)] 5 ⟨_,_,rfl,rfl⟩
  ·refine go ?_
   exact je [0,1,2,3,9] [(4,4)] 5 fun h=>⟨_,h,rfl⟩
 ·rintro e' ⟨out_,h,rfl⟩; refine tl h ?_; unfold zR0
  refine jn (fun e'=>∃ out__1,zI7 ins dels nextIns nextDels out__1=some r'∧e'=⟨76,4,5,[(0,.pl (.one (.v (.sc (.int .i64 ins))))),(1,.pl (.one (.v (.list false 1 (List.map (rK .i64) dels))))),(2,.pl (.one (.v (.sc (.int .i64 nextIns))))),(3,.pl (.one (.v (.list false 1 (List.map (rK .i64) nextDels))))),(9,.pl (.one (.ref 4 [])))],[(4,.list true 3 (List.map (zB true) out__1))]⟩) ?_ ?_
  ·refine go ?_
   refine gc 3 (fun b_1 e'=>e'=⟨76,4,5,[(0,.pl (.one (.v (.sc (.int .i64 ins))))),(1,.pl (.one (.v (.list false 1 (List.map (rK .i64) dels))))),(2,.pl (.one (.v (.sc (.int .i64 nextIns))))),(3,.pl (.one (.v (.list false 1 (List.map (rK .i64) nextDels))))),(9,.pl (.one (.ref 4 []))),(41,.pl (.one (.v (.sc (.bool b_1)))))],[(4,.list true 3 (List.map (zB true) out_))]⟩) ?_ ?_
   ·intro p
    refine yF ?_ ?_
    ·refine go ?_
     exact ge [0,1,2,3,9,41] [(4,4)] 5 rfl
    ·refine go ?_
     exact ge [0,1,2,3,9,41] [(4,4)] 5 rfl
   ·rintro b_1 _ rfl
    refine go ?_
    refine sp ?_ ?_
    ·refine go ?_; intro l_2 v'
     refine go ?_
     exact je [0,1,2,3,9] [(4,4)] 5 fun h=>⟨_,h,rfl⟩
    ·refine go ?_
     exact je [0,1,2,3,9] [(4,4)] 5 fun h=>⟨_,h,rfl⟩
  ·rintro e' ⟨out__1,h,rfl⟩; refine tl h ?_; unfold zI7
   refine jn (fun e'=>∃ out__2,zH6 dels nextDels out__2=some r'∧e'=⟨76,4,5,[(1,.pl (.one (.v (.list false 1 (List.map (rK .i64) dels))))),(3,.pl (.one (.v (.list false 1 (List.map (rK .i64) nextDels))))),(9,.pl (.one (.ref 4 [])))],[(4,.list true 3 (List.map (zB true) out__2))]⟩) ?_ ?_
   ·refine go ?_
    refine gc 3 (fun b e'=>e'=⟨76,4,5,[(1,.pl (.one (.v (.list false 1 (List.map (rK .i64) dels))))),(2,.pl (.one (.v (.sc (.int .i64 nextIns))))),(3,.pl (.one (.v (.list false 1 (List.map (rK .i64) nextDels))))),(9,.pl (.one (.ref 4 []))),(53,.pl (.one (.v (.sc (.bool b)))))],[(4,.list true 3 (List.map (zB true) out__1))]⟩) ?_ ?_
    ·intro p
     refine yF ?_ ?_
     ·refine go ?_
      exact ge [1,2,3,9,53] [(4,4)] 5 rfl
     ·refine go ?_
      exact ge [1,2,3,9,53] [(4,4)] 5 rfl
    ·rintro b _ rfl
     refine go ?_
     refine sp ?_ ?_
     ·refine go ?_; intro l_1 v'
      refine go ?_
      exact je [1,3,9] [(4,4)] 5 fun h=>⟨_,h,rfl⟩
     ·refine go ?_
      exact je [1,3,9] [(4,4)] 5 fun h=>⟨_,h,rfl⟩
   ·rintro e' ⟨out__2,h,rfl⟩; refine tl h ?_; unfold zH6
    refine jn (fun e'=>∃ out__3,qG7 out__3=some r'∧e'=⟨76,4,5,[(9,.pl (.one (.ref 4 [])))],[(4,.list true 3 (List.map (zB true) out__3))]⟩) ?_ ?_
    ·refine go ?_
     refine lp (fun s' e'=>∃ x61 out__4,s'=(x61,out__4)∧e'=⟨76,4,5,[(1,.pl (.one (.v (.list false 1 (List.map (rK .i64) dels))))),(9,.pl (.one (.ref 4 []))),(59,.pl (.one (.v (.list false 1 (List.map (rK .i64) nextDels))))),(60,.pl (.one (.v (.sc (.int .i64 (nextDels.length:Int)))))),(61,.pl (.one (.v (.sc (.int .i64 x61)))))],[(4,.list true 3 (List.map (zB true) out__4))]⟩) [1,9,59,60,61] [(4,4)] 5 ⟨_,_,rfl,rfl⟩ ?_
     rintro s' _ ⟨x61,out__4,rfl,rfl⟩ y1'
     change Tl _ (zI0 dels nextDels x61 out__4) _ _; unfold zI0
     refine go ?_
     refine sq ?_
     refine go ?_
     refine sp ?_ ?_
     ·refine go ?_
      refine sq ?_
      refine go ?_; intro x v'
      refine go ?_; intro x67
      refine go ?_
      refine sp ?_ ?_
      ·refine go ?_; intro l v'
       refine go ?_
       exact bk [1,9,59,60,61] [(4,4)] 5 ⟨_,_,rfl,rfl⟩
      ·refine go ?_
       exact bk [1,9,59,60,61] [(4,4)] 5 ⟨_,_,rfl,rfl⟩
     ·refine go ?_
      exact je [9] [(4,4)] 5 fun h=>⟨_,h,rfl⟩
    ·rintro e' ⟨out__3,h,rfl⟩; refine tl h ?_; unfold qG7
     exact gz
instance W_impl_records:∀ w,Wlk X (zM9 w) 69 [] [.agg [.list false 1 (List.map (rL false 1 (rK .i64)) w.Parents),.list false 4 (List.map (zA false) w.Bodies)]] (fun r'=>[.one (.list true 3 (List.map (zB true) r'))]) (fun r'=>[]):=fun w=>by
 refine ws f69 40 [.tmp 2] (h2 t3 (h2 t9 (h2 t25 (h2 t27 (h2 t30 (h2 t39 (h2 t46 (h2 t114 (h2 jJ (h2 zM (h2 xJ qI))))))))))) ?_
 intro r'; unfold zM9
 refine go ?_
 refine lf ?_ (fun a g=>zB5 a 3 g)
 refine go ?_
 refine lf ?_ (fun a g=>zB5 a 3 g)
 refine go ?_
 refine l1 ?_
 refine go ?_
 refine jn (fun e'=>∃ ins dels out_,zS5 ins dels out_=some r'∧e'=⟨40,2,3,[(3,.pl (.one (.ref 2 []))),(4,.pl (.one (.v (.sc (.int .i64 ins))))),(5,.pl (.one (.v (.list false 1 (List.map (rK .i64) dels)))))],[(2,.list true 3 (List.map (zB true) out_))]⟩) ?_ ?_
 ·refine go ?_
  refine tF 5 ?_
  refine go ?_
  refine lp (fun s' e'=>∃ ins_1 dels_1 x11 out__1,s'=(ins_1,dels_1,x11,out__1)∧e'=⟨40,2,3,[(3,.pl (.one (.ref 2 []))),(4,.pl (.one (.v (.sc (.int .i64 ins_1))))),(5,.pl (.one (.v (.list false 1 (List.map (rK .i64) dels_1))))),(9,.pl (.one (.v (.list false 4 (List.map (zA false) w.Bodies))))),(10,.pl (.one (.v (.sc (.int .i64 (w.Bodies.length:Int)))))),(11,.pl (.one (.v (.sc (.int .i64 x11)))))],[(2,.list true 3 (List.map (zB true) out__1))]⟩) [3,4,5,9,10,11] [(4,2)] 3 ⟨_,_,_,_,rfl,rfl⟩ ?_
  rintro s' _ ⟨ins_1,dels_1,x11,out__1,rfl,rfl⟩ y1'
  change Tl _ (vN w ins_1 dels_1 x11 out__1) _ _; unfold vN
  refine go ?_
  refine sq ?_
  refine go ?_
  refine sp ?_ ?_
  ·refine go ?_
   refine sq ?_
   refine go ?_; intro x v'
   refine go ?_
   refine l1 ?_
   refine go ?_; intro x22
   refine go ?_; intro l_1 v'
   refine go ?_; intro l_2 v'
   refine go ?_
   refine rq ?_
   refine go ?_
   exact bk [3,4,5,9,10,11] [(2,2)] 3 ⟨_,_,_,_,rfl,rfl⟩
  ·refine go ?_
   exact je [3,4,5] [(2,2)] 3 fun h=>⟨_,_,_,h,rfl⟩
 ·rintro e' ⟨ins,dels,out_,h,rfl⟩; refine tl h ?_; unfold zS5
  refine go ?_
  refine cN [(3,false,1)] ?_; intro x38
  refine go ?_; intro l v'
  exact gz
instance W_slices_Equal_impl_Rec_impl_Rec:∀ s1 s2,Wlk X (xG s1 s2) 76 [] [.one (.list false 3 (List.map (zB true) s1)),.one (.list false 3 (List.map (zB true) s2))] (fun r'=>[.one (.sc (.bool r'))]) (fun r'=>[]):=fun s1 s2=>by
 refine ws f76 26 [.tmp 4] (h2 t3 (h2 t9 (h2 t30 (h2 t114 xJ)))) ?_
 intro r'; unfold xG
 refine go ?_
 refine sq ?_
 refine go ?_
 refine sp ?_ ?_
 ·exact gz
 ·refine go ?_
  refine jn (fun e'=>yQ=some r'∧e'=⟨26,2,2,[],[]⟩) ?_ ?_
  ·refine go ?_
   refine lp (fun x13 e'=>e'=⟨26,2,2,[(0,.pl (.one (.v (.list false 3 (List.map (zB true) s1))))),(1,.pl (.one (.v (.list false 3 (List.map (zB true) s2))))),(12,.pl (.one (.v (.sc (.int .i64 (s1.length:Int)))))),(13,.pl (.one (.v (.sc (.int .i64 x13)))))],[]⟩) [0,1,12,13] [] 2 rfl ?_
   rintro x13 _ rfl y1'
   change Tl _ (qW s1 s2 x13) _ _; unfold qW
   refine go ?_
   refine sq ?_
   refine go ?_
   refine sp ?_ ?_
   ·refine go ?_
    refine sq ?_
    refine go ?_
    refine rq ?_
    refine go ?_; intro x v'
    refine go ?_; intro x_1 v'
    refine go ?_
    refine lf ?_ (fun a g=>quV_cmp a (by kernel_rfl) g)
    refine go ?_
    refine sp ?_ ?_
    ·exact gz
    ·refine go ?_
     exact bk [0,1,12,13] [] 2 rfl
   ·refine go ?_
    exact je [] [] 2 fun h=>⟨h,rfl⟩
  ·rintro e' ⟨h,rfl⟩; refine tl h ?_; unfold yQ
   exact gz
instance W_impl_FromRecords:∀ parents list_,Wlk X (zG3 parents list_) 16 [] [.one (.list false 1 (List.map (rL false 1 (rK .i64)) parents)),.one (.list false 3 (List.map (zB true) list_))] (fun r'=>[.agg [.list true 1 (List.map (rL true 1 (rK .i64)) r'.1.Parents),.list true 4 (List.map (zA true) r'.1.Bodies)],.one (.sc (.bool r'.2))]) (fun r'=>[]):=fun parents list_=>by
 refine ws f16 86 [.cell 4 27,.tmp 5] (h2 t3 (h2 t4 (h2 t9 (h2 t24 (h2 t25 (h2 t27 (h2 t30 (h2 t39 (h2 t46 (h2 t112 (h2 t114 (h2 jJ (h2 zM (h2 xJ qI)))))))))))))) ?_
 intro r'; unfold zG3
 refine go ?_
 refine l1 ?_
 refine go ?_
 refine sq ?_
 refine go ?_
 refine gc 4 (fun b e'=>e'=⟨86,2,3,[(0,.pl (.one (.v (.list false 1 (List.map (rL false 1 (rK .i64)) parents))))),(1,.pl (.one (.v (.list false 3 (List.map (zB true) list_))))),(4,.pl (.one (.ref 2 []))),(18,.pl (.one (.v (.sc (.bool b)))))],[(2,.box true [.list true 1 (List.map (rL true 1 (rK .i64)) []),.list true 4 (List.map (zA true) [])])]⟩) ?_ ?_
 ·intro p
  refine qS ?_ ?_
  ·refine go ?_
   exact ge [0,1,4,18] [(2,2)] 3 rfl
  ·refine go ?_; intro x16
   refine go ?_
   exact ge [0,1,4,18] [(2,2)] 3 rfl
 ·rintro b _ rfl
  refine go ?_
  refine sp ?_ ?_
  ·exact gz
  ·refine go ?_; intro x21
   refine go ?_
   refine l1 ?_
   refine go ?_
   refine l1 ?_
   refine go ?_; intro x26 v'
   refine go ?_
   refine jn (fun e'=>∃ w,uU list_ x21 w=some r'∧e'=⟨86,2,4,[(1,.pl (.one (.v (.list false 3 (List.map (zB true) list_))))),(4,.pl (.one (.ref 2 []))),(6,.pl (.one (.ref 3 [])))],[(2,.box true [.list true 1 (List.map (rL true 1 (rK .i64)) []),.list true 4 (List.map (zA true) [])]),(3,.box true [.list true 1 (List.map (rL true 1 (rK .i64)) x21),.list true 4 (List.map (zA true) w)])]⟩) ?_ ?_
   ·refine go ?_
    refine lp (fun s' e'=>∃ x29 w_1 o o_1 o_2 born,s'=(x29,w_1,o,o_1,o_2,born)∧e'=⟨86,2,6,[(0,.pl (.one (.v (.list false 1 (List.map (rL false 1 (rK .i64)) parents))))),(1,.pl (.one (.v (.list false 3 (List.map (zB true) list_))))),(4,.pl (.one (.ref 2 []))),(6,.pl (.one (.ref 3 []))),(7,.pl (.one (.ref 4 []))),(8,.pl (.one (.ref 5 []))),(27,.pl (.one (.v (.list false 3 (List.map (zB true) list_))))),(28,.pl (.one (.v (.sc (.int .i64 (list_.length:Int)))))),(29,.pl (.one (.v (.sc (.int .i64 x29)))))],[(2,.box true [.list true 1 (List.map (rL true 1 (rK .i64)) []),.list true 4 (List.map (zA true) [])]),(3,.box true [.list true 1 (List.map (rL true 1 (rK .i64)) x21),.list true 4 (List.map (zA true) w_1)]),(4,.box true [.sc (.bool o),.sc (.int .i64 o_1),.list true 1 (List.map (rK .i64) o_2)]),(5,.list true 1 (List.map (rK .i64) born))]⟩) [0,1,4,6,7,8,27,28,29] [(2,2),(4,3),(5,4),(6,5)] 6 ⟨_,_,_,_,_,_,rfl,rfl⟩ ?_
    rintro s' _ ⟨x29,w_1,o,o_1,o_2,born,rfl,rfl⟩ y1'
    change Tl _ (vJ parents list_ x29 w_1 o o_1 o_2 born) _ _; unfold vJ
    refine go ?_
    refine sq ?_
    refine go ?_
    refine sp ?_ ?_
    ·refine go ?_
     refine sq ?_
     refine go ?_; intro x v'
     refine go ?_
     refine l1 ?_
     refine go ?_
     refine sq ?_
     refine go ?_; intro x34
     refine go ?_
     refine sp ?_ ?_
     ·exact gz
     ·refine go ?_
      refine sq ?_
      refine go ?_
      refine sp ?_ ?_
      ·refine go ?_
       exact bk [0,1,4,6,7,8,27,28,29] [(2,2),(3,3),(4,4),(5,5)] 6 ⟨_,_,_,_,_,_,rfl,rfl⟩
      ·refine go ?_
       refine sq ?_
       refine go ?_; intro x44
       refine go ?_
       refine sp ?_ ?_
       ·exact gz
       ·refine go ?_
        refine rO 4 [0,2,4,6,7,11,1,3,5,8,9,10,12,13,14,15,16,17,18,19] ?_
        refine go ?_; intro x_1 v'
        refine go ?_; intro x60
        refine go ?_; intro x61
        refine go ?_; intro l v'
        refine go ?_
        refine bO 4 [0,1,7,27,28,29] [4,6,8] ?_
        refine go ?_; intro x_2 v'
        refine go ?_
        exact bk [0,1,4,6,7,8,27,28,29] [(2,2),(3,3),(4,4),(5,5)] 6 ⟨_,_,_,_,_,_,rfl,rfl⟩
    ·refine go ?_
     exact je [1,4,6] [(2,2),(3,3)] 4 fun h=>⟨_,h,rfl⟩
   ·rintro e' ⟨w,h,rfl⟩; refine tl h ?_; unfold uU
    refine sq ?_
    refine go ?_; intro x75
    refine go ?_
    refine gc 6 (fun b_1 e'=>e'=⟨86,2,4,[(4,.pl (.one (.ref 2 []))),(6,.pl (.one (.ref 3 []))),(83,.pl (.one (.v (.sc (.bool b_1)))))],[(2,.box true [.list true 1 (List.map (rL true 1 (rK .i64)) []),.list true 4 (List.map (zA true) [])]),(3,.box true [.list true 1 (List.map (rL true 1 (rK .i64)) x21),.list true 4 (List.map (zA true) w)])]⟩) ?_ ?_
    ·intro p
     refine qS ?_ ?_
     ·refine go ?_
      exact ge [4,6,83] [(2,2),(3,3)] 4 rfl
     ·refine go ?_; intro x79
      refine go ?_; intro x81
      refine go ?_
      exact ge [4,6,83] [(2,2),(3,3)] 4 rfl
    ·rintro b_1 _ rfl
     refine go ?_
     refine sp ?_ ?_
     ·exact gz
     ·exact gz
end Go.TV.KFnExactReadWeave
