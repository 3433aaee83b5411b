/- Walks. -/
import Derived.Test.YtbapbpnchdpbhaaGreatKFnExactReadWeaveE
set_option linter.unusedVariables false
set_option linter.unusedSimpArgs false
set_option maxHeartbeats 8000000
set_option maxRecDepth 100000
namespace Go.TV.KFnExactReadWeave
attribute [local irreducible] wpV opsV Does yU yP RetL quV seqV Cy lpP cutP cutQ
open Go.Proofs.Tryz Go.TV.F
instance W_spec_SumMore:∀ sum text,Wlk X (zO8 sum text) 122 [] [.one (.sc (.int .u32 sum)),.one (.sc (.string text))] (fun r'=>[.one (.sc (.int .u32 r'))]) (fun r'=>[]):=fun sum text=>by
 refine ws f122 33 [.tmp 4] (h2 t3 (h2 t5 (h2 t9 t59))) ?_
 intro r'; unfold zO8
 refine go ?_
 refine jn (fun e'=>∃ sum_1,qC2 sum_1=some r'∧e'=⟨33,2,2,[(0,.pl (.one (.v (.sc (.int .u32 sum_1)))))],[]⟩) ?_ ?_
 ·refine go ?_
  refine lp (fun s' e'=>∃ sum_2 i,s'=(sum_2,i)∧e'=⟨33,2,2,[(0,.pl (.one (.v (.sc (.int .u32 sum_2))))),(1,.pl (.one (.v (.sc (.string text))))),(5,.pl (.one (.v (.sc (.int .i64 i)))))],[]⟩) [0,1,5] [] 2 ⟨_,_,rfl,rfl⟩ ?_
  rintro s' _ ⟨sum_2,i,rfl,rfl⟩ y1'
  change Tl _ (xY text sum_2 i) _ _; unfold xY
  refine sq ?_
  refine go ?_
  refine sp ?_ ?_
  ·refine go ?_
   refine jn (fun e'=>∃ sum_3,zK0 i sum_3=some y1'∧e'=⟨33,2,2,[(0,.pl (.one (.v (.sc (.int .u32 sum_3))))),(1,.pl (.one (.v (.sc (.string text))))),(5,.pl (.one (.v (.sc (.int .i64 i)))))],[]⟩) ?_ ?_
   ·refine go ?_; intro x17 v'
    refine go ?_
    refine lp (fun s' e'=>∃ sum_4 k,s'=(sum_4,k)∧e'=⟨33,2,2,[(0,.pl (.one (.v (.sc (.int .u32 sum_4))))),(1,.pl (.one (.v (.sc (.string text))))),(5,.pl (.one (.v (.sc (.int .i64 i))))),(6,.pl (.one (.v (.sc (.int .i64 k)))))],[]⟩) [0,1,5,6] [] 2 ⟨_,_,rfl,rfl⟩ ?_
    rintro s' _ ⟨sum_4,k,rfl,rfl⟩ y2'
    change Tl _ (xE sum_4 k) _ _; unfold xE
    refine sq ?_
    refine go ?_
    refine sp ?_ ?_
    ·refine go ?_
     refine sq ?_
     refine go ?_
     refine sp ?_ ?_
     ·refine go ?_
      exact bk [0,1,5,6] [] 2 ⟨_,_,rfl,rfl⟩
     ·refine go ?_
      exact bk [0,1,5,6] [] 2 ⟨_,_,rfl,rfl⟩
    ·refine go ?_
     exact je [0,1,5] [] 2 fun h=>⟨_,h,rfl⟩
   ·rintro e' ⟨sum_3,h,rfl⟩; refine tl h ?_; unfold zK0
    refine go ?_
    exact bk [0,1,5] [] 2 ⟨_,_,rfl,rfl⟩
  ·refine go ?_
   exact je [0] [] 2 fun h=>⟨_,h,rfl⟩
 ·rintro e' ⟨sum_1,h,rfl⟩; refine tl h ?_; unfold qC2
  exact gz
instance W_spec_SumOf:∀ text,Wlk X (vL text) 35 [] [.one (.sc (.string text))] (fun r'=>[.one (.sc (.int .u32 r'))]) (fun r'=>[]):=fun text=>by
 refine ws f35 5 [.tmp 2] trivial ?_
 intro r'; unfold vL
 refine go ?_; intro x4
 exact gz
instance W_spec_l02Four:∀ x,Wlk X (kT x) 198 [] [.one (.sc (.int .u32 x))] (fun r'=>[.one (.sc (.string r'))]) (fun r'=>[]):=fun x=>by
 refine ws f198 16 [.tmp 2] (h2 t5 (h2 t9 (h2 t22 t59))) ?_
 intro r'; unfold kT
 refine go ?_
 refine fk (show zM8 [[V.sc (.int .u8 (wk .u8 (xL .u32 x 24)))],[V.sc (.int .u8 (wk .u8 (xL .u32 x 16)))],[V.sc (.int .u8 (wk .u8 (xL .u32 x 8)))],[V.sc (.int .u8 (wk .u8 x))]]=some [(wk .u8 (xL .u32 x 24)),(wk .u8 (xL .u32 x 16)),(wk .u8 (xL .u32 x 8)),(wk .u8 x)] from qK [(wk .u8 (xL .u32 x 24)),(wk .u8 (xL .u32 x 16)),(wk .u8 (xL .u32 x 8)),(wk .u8 x)]) ?_
 exact gz
instance W_spec_Unsealed:∀ text,Wlk X (zD3 text) 107 [] [.one (.sc (.string text))] (fun r'=>[.one (.sc (.string r'.1)),.one (.sc (.bool r'.2))]) (fun r'=>[]):=fun text=>by
 refine ws f107 28 [.tmp 2,.tmp 3] (h2 t3 t9) ?_
 intro r'; unfold zD3
 refine go ?_
 refine sq ?_
 refine go ?_
 refine rq ?_
 refine go ?_
 refine qc 3 (fun b e'=>e'=⟨28,1,1,[(0,.pl (.one (.v (.sc (.string text))))),(4,.pl (.one (.v (.sc (.int .i64 (wk .i64 ((text.size:Int) - 4))))))),(13,.pl (.one (.v (.sc (.bool b)))))],[]⟩) ?_ ?_
 ·intro p
  refine zA3 ?_ ?_
  ·refine go ?_
   exact ge [0,4,13] [] 1 rfl
  ·refine go ?_
   exact ge [0,4,13] [] 1 rfl
 ·rintro b _ rfl
  refine go ?_
  refine qc 10 (fun b_1 e'=>e'=⟨28,1,1,[(0,.pl (.one (.v (.sc (.string text))))),(4,.pl (.one (.v (.sc (.int .i64 (wk .i64 ((text.size:Int) - 4))))))),(24,.pl (.one (.v (.sc (.bool b_1)))))],[]⟩) ?_ ?_
  ·intro p
   refine zA3 ?_ ?_
   ·refine go ?_
    exact ge [0,4,24] [] 1 rfl
   ·refine go ?_; intro x17 v'
    refine go ?_; intro x20 v'
    refine go ?_; intro x21
    refine go ?_; intro x22
    refine go ?_
    exact ge [0,4,24] [] 1 rfl
  ·rintro b_1 _ rfl
   refine go ?_
   refine sp ?_ ?_
   ·exact gz
   ·refine go ?_; intro x27 v'
    refine go ?_
    refine l1 ?_
    exact gz
instance W_spec_l08Take:∀ c n,Wlk X (jC c n) 108 [0] [.one (.box true [.sc (.string c.text),.sc (.int .i64 c.at_),.sc (.bool c.bad)]),.one (.sc (.int .i64 n))] (fun r'=>[.one (.sc (.string r'.1))]) (fun r'=>[(0,.box true [.sc (.string r'.2.text),.sc (.int .i64 r'.2.at_),.sc (.bool r'.2.bad)])]):=fun c n=>by
 refine ws f108 50 [.tmp 4] (h2 t3 (h2 t4 (h2 t9 t163))) ?_
 intro r'; unfold jC
 refine go ?_
 refine sq ?_
 refine go ?_
 refine rq ?_
 refine go ?_
 refine qc 13 (fun b e'=>e'=⟨50,2,2,[(0,.pl (.one (.ref 0 []))),(1,.pl (.one (.v (.sc (.int .i64 n))))),(22,.pl (.one (.v (.sc (.bool b)))))],[(0,.box true [.sc (.string c.text),.sc (.int .i64 c.at_),.sc (.bool c.bad)])]⟩) ?_ ?_
 ·intro p
  refine zA3 ?_ ?_
  ·refine go ?_
   exact ge [0,1,22] [(0,0)] 2 rfl
  ·refine go ?_
   exact ge [0,1,22] [(0,0)] 2 rfl
 ·rintro b _ rfl
  refine go ?_
  refine sp ?_ ?_
  ·exact gz
  ·refine go ?_
   refine rq ?_
   refine go ?_; intro x49 v'
   exact gz
instance W_spec_l01In:∀ x least most,Wlk X (xS x least most) 94 [] [.one (.sc (.int .i64 x)),.one (.sc (.int .i64 least)),.one (.sc (.int .i64 most))] (fun r'=>[.one (.sc (.bool r'))]) (fun r'=>[]):=fun x least most=>by
 refine ws f94 15 [.tmp 6] t3 ?_
 intro r'; unfold xS
 refine go ?_
 refine gc 4 (fun b e'=>e'=⟨15,3,3,[(14,.pl (.one (.v (.sc (.bool b)))))],[]⟩) ?_ ?_
 ·intro p
  refine yF ?_ ?_
  ·refine go ?_
   exact ge [14] [] 3 rfl
  ·refine go ?_
   exact ge [14] [] 3 rfl
 ·rintro b _ rfl
  exact gz
instance W_spec_l01Var:∀ n,Wlk X (wE n) 93 [] [.one (.sc (.int .i64 n))] (fun r'=>[.one (.sc (.string r'))]) (fun r'=>[]):=fun n=>by
 refine ws f93 22 [.tmp 2] (h2 t3 (h2 t5 (h2 t9 (h2 t22 R_u8)))) ?_
 intro r'; unfold wE
 refine go ?_
 refine jn (fun e'=>∃ n_1 out_,zW5 n_1 out_=some r'∧e'=⟨22,1,2,[(0,.pl (.one (.v (.sc (.int .i64 n_1))))),(3,.pl (.one (.ref 1 [])))],[(1,.list true 1 (List.map (rK .u8) out_))]⟩) ?_ ?_
 ·refine go ?_
  refine lp (fun s' e'=>∃ n_2 out__1,s'=(n_2,out__1)∧e'=⟨22,1,2,[(0,.pl (.one (.v (.sc (.int .i64 n_2))))),(3,.pl (.one (.ref 1 [])))],[(1,.list true 1 (List.map (rK .u8) out__1))]⟩) [0,3] [(1,1)] 2 ⟨_,_,rfl,rfl⟩ ?_
  rintro s' _ ⟨n_2,out__1,rfl,rfl⟩ y1'
  change Tl _ (zO9 n_2 out__1) _ _; unfold zO9
  refine sq ?_
  refine go ?_
  refine sp ?_ ?_
  ·refine go ?_; intro l_1 v'
   refine go ?_
   exact bk [0,3] [(1,1)] 2 ⟨_,_,rfl,rfl⟩
  ·refine go ?_
   exact je [0,3] [(1,1)] 2 fun h=>⟨_,_,h,rfl⟩
 ·rintro e' ⟨n_1,out_,h,rfl⟩; refine tl h ?_; unfold zW5
  refine go ?_; intro l v'
  exact gz
instance W_spec_ReadVar:∀ text at_,Wlk X (zN1 text at_) 201 [] [.one (.sc (.string text)),.one (.sc (.int .i64 at_))] (fun r'=>[.one (.sc (.int .i64 r'.1)),.one (.sc (.int .i64 r'.2.1)),.one (.sc (.bool r'.2.2))]) (fun r'=>[]):=fun text at_=>by
 refine ws f201 58 [.tmp 4,.tmp 5,.tmp 6] (h2 t3 (h2 t5 t9)) ?_
 intro r'; unfold zN1
 refine go ?_
 refine sq ?_
 refine go ?_; intro x13
 refine go ?_
 refine sp ?_ ?_
 ·exact gz
 ·refine go ?_
  refine jn (fun e'=>qC5=some r'∧e'=⟨58,2,2,[],[]⟩) ?_ ?_
  ·refine go ?_
   refine lp (fun s' e'=>∃ n scale i,s'=(n,scale,i)∧e'=⟨58,2,2,[(0,.pl (.one (.v (.sc (.string text))))),(1,.pl (.one (.v (.sc (.int .i64 at_))))),(7,.pl (.one (.v (.sc (.int .i64 n))))),(8,.pl (.one (.v (.sc (.int .i64 scale))))),(9,.pl (.one (.v (.sc (.int .i64 i)))))],[]⟩) [0,1,7,8,9] [] 2 ⟨_,_,_,rfl,rfl⟩ ?_
   rintro s' _ ⟨n,scale,i,rfl,rfl⟩ y1'
   change Tl _ (zJ4 text at_ n scale i) _ _; unfold zJ4
   refine sq ?_
   refine go ?_
   refine gc 5 (fun b e'=>e'=⟨58,2,2,[(0,.pl (.one (.v (.sc (.string text))))),(1,.pl (.one (.v (.sc (.int .i64 at_))))),(7,.pl (.one (.v (.sc (.int .i64 n))))),(8,.pl (.one (.v (.sc (.int .i64 scale))))),(9,.pl (.one (.v (.sc (.int .i64 i))))),(25,.pl (.one (.v (.sc (.bool b)))))],[]⟩) ?_ ?_
   ·intro p
    refine yF ?_ ?_
    ·refine go ?_
     exact ge [0,1,7,8,9,25] [] 2 rfl
    ·refine go ?_
     exact ge [0,1,7,8,9,25] [] 2 rfl
   ·rintro b _ rfl
    refine go ?_
    refine sp ?_ ?_
    ·refine go ?_
     refine sq ?_
     refine go ?_; intro x31 v'
     refine go ?_
     refine sp ?_ ?_
     ·refine sq ?_
      refine go ?_
      refine rq ?_
      refine go ?_
      refine qc 9 (fun b_1 e'=>e'=⟨58,2,2,[(7,.pl (.one (.v (.sc (.int .i64 (wk .i64 (n+(wk .i64 (((wk .i64 x31).tmod 128) * scale))))))))),(9,.pl (.one (.v (.sc (.int .i64 i))))),(54,.pl (.one (.v (.sc (.bool b_1)))))],[]⟩) ?_ ?_
      ·intro p
       refine zA3 ?_ ?_
       ·refine go ?_
        exact ge [7,9,54] [] 2 rfl
       ·refine go ?_; intro x47
        refine go ?_; intro x52 v'
        refine go ?_
        exact ge [7,9,54] [] 2 rfl
      ·rintro b_1 _ rfl
       refine go ?_
       refine sp ?_ ?_
       ·exact gz
       ·exact gz
     ·refine go ?_
      exact bk [0,1,7,8,9] [] 2 ⟨_,_,_,rfl,rfl⟩
    ·refine go ?_
     exact je [] [] 2 fun h=>⟨h,rfl⟩
  ·rintro e' ⟨h,rfl⟩; refine tl h ?_; unfold qC5
   exact gz
instance W_spec_l08Var:∀ c most,Wlk X (jF c most) 109 [0] [.one (.box true [.sc (.string c.text),.sc (.int .i64 c.at_),.sc (.bool c.bad)]),.one (.sc (.int .i64 most))] (fun r'=>[.one (.sc (.int .i64 r'.1))]) (fun r'=>[(0,.box true [.sc (.string r'.2.text),.sc (.int .i64 r'.2.at_),.sc (.bool r'.2.bad)])]):=fun c most=>by
 refine ws f109 42 [.tmp 4] (h2 t3 (h2 t4 (h2 t9 t163))) ?_
 intro r'; unfold jF
 refine go ?_
 refine rq ?_
 refine go ?_
 refine qT (fun x=>[(.int .i64 x.1),(.int .i64 x.2.1),(.bool x.2.2)]) ?_; intro x17
 refine go ?_
 refine sq ?_
 refine go ?_
 refine gc 3 (fun b e'=>e'=⟨42,2,2,[(0,.pl (.one (.ref 0 []))),(1,.pl (.one (.v (.sc (.int .i64 most))))),(5,.pl (.one (.v (.sc (.int .i64 x17.1))))),(6,.pl (.one (.v (.sc (.int .i64 x17.2.1))))),(28,.pl (.one (.v (.sc (.bool b)))))],[(0,.box true [.sc (.string c.text),.sc (.int .i64 c.at_),.sc (.bool c.bad)])]⟩) ?_ ?_
 ·intro p
  refine qS ?_ ?_
  ·refine go ?_
   exact ge [0,1,5,6,28] [(0,0)] 2 rfl
  ·refine go ?_
   exact ge [0,1,5,6,28] [(0,0)] 2 rfl
 ·rintro b _ rfl
  refine go ?_
  refine gc 4 (fun b_1 e'=>e'=⟨42,2,2,[(0,.pl (.one (.ref 0 []))),(5,.pl (.one (.v (.sc (.int .i64 x17.1))))),(6,.pl (.one (.v (.sc (.int .i64 x17.2.1))))),(33,.pl (.one (.v (.sc (.bool b_1)))))],[(0,.box true [.sc (.string c.text),.sc (.int .i64 c.at_),.sc (.bool c.bad)])]⟩) ?_ ?_
  ·intro p
   refine qS ?_ ?_
   ·refine go ?_
    exact ge [0,5,6,33] [(0,0)] 2 rfl
   ·refine go ?_
    exact ge [0,5,6,33] [(0,0)] 2 rfl
  ·rintro b_1 _ rfl
   refine go ?_
   refine sp ?_ ?_
   ·exact gz
   ·exact gz
instance W_spec_ReadShort:∀ text at_,Wlk X (zF8 text at_) 202 [] [.one (.sc (.string text)),.one (.sc (.int .i64 at_))] (fun r'=>[.one (.sc (.string r'.1)),.one (.sc (.int .i64 r'.2.1)),.one (.sc (.bool r'.2.2))]) (fun r'=>[]):=fun text at_=>by
 refine ws f202 40 [.tmp 4,.tmp 5,.tmp 6] (h2 t3 t9) ?_
 intro r'; unfold zF8
 refine go ?_; intro x13
 refine go ?_
 refine sq ?_
 refine go ?_
 refine gc 3 (fun b e'=>e'=⟨40,2,2,[(0,.pl (.one (.v (.sc (.string text))))),(7,.pl (.one (.v (.sc (.int .i64 x13.1))))),(8,.pl (.one (.v (.sc (.int .i64 x13.2.1))))),(22,.pl (.one (.v (.sc (.bool b)))))],[]⟩) ?_ ?_
 ·intro p
  refine qS ?_ ?_
  ·refine go ?_
   exact ge [0,7,8,22] [] 2 rfl
  ·refine go ?_
   exact ge [0,7,8,22] [] 2 rfl
 ·rintro b _ rfl
  refine go ?_
  refine gc 7 (fun b_1 e'=>e'=⟨40,2,2,[(0,.pl (.one (.v (.sc (.string text))))),(7,.pl (.one (.v (.sc (.int .i64 x13.1))))),(8,.pl (.one (.v (.sc (.int .i64 x13.2.1))))),(30,.pl (.one (.v (.sc (.bool b_1)))))],[]⟩) ?_ ?_
  ·intro p
   refine qS ?_ ?_
   ·refine go ?_
    exact ge [0,7,8,30] [] 2 rfl
   ·refine go ?_
    exact ge [0,7,8,30] [] 2 rfl
  ·rintro b_1 _ rfl
   refine go ?_
   refine sp ?_ ?_
   ·exact gz
   ·refine go ?_; intro x36 v'
    refine go ?_
    refine l1 ?_
    exact gz
instance W_spec_l08Short:∀ c,Wlk X (uO c) 110 [0] [.one (.box true [.sc (.string c.text),.sc (.int .i64 c.at_),.sc (.bool c.bad)])] (fun r'=>[.one (.sc (.string r'.1))]) (fun r'=>[(0,.box true [.sc (.string r'.2.text),.sc (.int .i64 r'.2.at_),.sc (.bool r'.2.bad)])]):=fun c=>by
 refine ws f110 35 [.tmp 2] (h2 t3 (h2 t4 (h2 t9 t163))) ?_
 intro r'; unfold uO
 refine go ?_
 refine rq ?_
 refine go ?_
 refine qT (fun x=>[(.string x.1),(.int .i64 x.2.1),(.bool x.2.2)]) ?_; intro x15
 refine go ?_
 refine sq ?_
 refine go ?_
 refine gc 3 (fun b e'=>e'=⟨35,1,1,[(0,.pl (.one (.ref 0 []))),(3,.pl (.one (.v (.sc (.string x15.1))))),(4,.pl (.one (.v (.sc (.int .i64 x15.2.1))))),(26,.pl (.one (.v (.sc (.bool b)))))],[(0,.box true [.sc (.string c.text),.sc (.int .i64 c.at_),.sc (.bool c.bad)])]⟩) ?_ ?_
 ·intro p
  refine qS ?_ ?_
  ·refine go ?_
   exact ge [0,3,4,26] [(0,0)] 1 rfl
  ·refine go ?_
   exact ge [0,3,4,26] [(0,0)] 1 rfl
 ·rintro b _ rfl
  refine go ?_
  refine sp ?_ ?_
  ·exact gz
  ·exact gz
instance W_spec_l05Rise:∀ list_ n,Wlk X (zN6 list_ n) 205 [] [.one (.list false 1 (List.map (rK .i64) list_)),.one (.sc (.int .i64 n))] (fun r'=>[.one (.sc (.bool r'))]) (fun r'=>[]):=fun list_ n=>by
 refine ws f205 36 [.tmp 4] (h2 t3 (h2 t39 qI)) ?_
 intro r'; unfold zN6
 refine go ?_
 refine jn (fun e'=>qB1=some r'∧e'=⟨36,2,2,[],[]⟩) ?_ ?_
 ·refine go ?_
  refine lp (fun i e'=>e'=⟨36,2,2,[(0,.pl (.one (.v (.list false 1 (List.map (rK .i64) list_))))),(1,.pl (.one (.v (.sc (.int .i64 n))))),(5,.pl (.one (.v (.sc (.int .i64 i)))))],[]⟩) [0,1,5] [] 2 rfl ?_
  rintro i _ rfl y1'
  change Tl _ (kC list_ n i) _ _; unfold kC
  refine sq ?_
  refine go ?_
  refine sp ?_ ?_
  ·refine go ?_
   refine sq ?_
   refine go ?_
   refine rq ?_
   refine go ?_; intro x v'
   refine go ?_; intro x18
   refine go ?_
   refine qc 15 (fun b e'=>e'=⟨36,2,2,[(0,.pl (.one (.v (.list false 1 (List.map (rK .i64) list_))))),(1,.pl (.one (.v (.sc (.int .i64 n))))),(5,.pl (.one (.v (.sc (.int .i64 i))))),(35,.pl (.one (.v (.sc (.bool b)))))],[]⟩) ?_ ?_
   ·intro p
    refine zA3 ?_ ?_
    ·refine go ?_
     exact ge [0,1,5,35] [] 2 rfl
    ·refine go ?_
     refine qc 11 (fun b_1 e'=>e'=⟨36,2,2,[(0,.pl (.one (.v (.list false 1 (List.map (rK .i64) list_))))),(1,.pl (.one (.v (.sc (.int .i64 n))))),(5,.pl (.one (.v (.sc (.int .i64 i))))),(20,.pl (.one (.v (.sc (.bool false))))),(21,.pl (.one (.v (.sc (.int .i64 i))))),(22,.pl (.one (.v (.sc (.bool (decide (i > 0))))))),(34,.pl (.one (.v (.sc (.bool b_1)))))],[]⟩) ?_ ?_
     ·intro p
      refine quV_spL ?_ ?_
      ·refine go ?_; intro x_1 v'
       refine go ?_
       exact ge [0,1,5,20,21,22,34] [] 2 rfl
      ·refine go ?_
       exact ge [0,1,5,20,21,22,34] [] 2 rfl
     ·rintro b_1 _ rfl
      refine go ?_
      exact ge [0,1,5,35] [] 2 rfl
   ·rintro b _ rfl
    refine go ?_
    refine sp ?_ ?_
    ·exact gz
    ·refine go ?_
     exact bk [0,1,5] [] 2 rfl
  ·refine go ?_
   exact je [] [] 2 fun h=>⟨h,rfl⟩
 ·rintro e' ⟨h,rfl⟩; refine tl h ?_; unfold qB1
  exact gz
instance W_spec_GraphOk:∀ parents,Wlk X (zO4 parents) 203 [] [.one (.list false 1 (List.map (rL false 1 (rK .i64)) parents))] (fun r'=>[.one (.sc (.bool r'))]) (fun r'=>[]):=fun parents=>by
 refine ws f203 28 [.tmp 2] (h2 t3 (h2 t24 (h2 t39 (h2 jJ qI)))) ?_
 intro r'; unfold zO4
 refine go ?_
 refine sq ?_
 refine go ?_
 refine sp ?_ ?_
 ·exact gz
 ·refine go ?_
  refine jn (fun e'=>zS9=some r'∧e'=⟨28,1,1,[],[]⟩) ?_ ?_
  ·refine go ?_
   refine lp (fun v e'=>e'=⟨28,1,1,[(0,.pl (.one (.v (.list false 1 (List.map (rL false 1 (rK .i64)) parents))))),(3,.pl (.one (.v (.sc (.int .i64 v)))))],[]⟩) [0,3] [] 1 rfl ?_
   rintro v _ rfl y1'
   change Tl _ (kF parents v) _ _; unfold kF
   refine sq ?_
   refine go ?_
   refine sp ?_ ?_
   ·refine go ?_
    refine sq ?_
    refine go ?_; intro x v'
    refine go ?_
    refine gc 8 (fun b e'=>e'=⟨28,1,1,[(0,.pl (.one (.v (.list false 1 (List.map (rL false 1 (rK .i64)) parents))))),(3,.pl (.one (.v (.sc (.int .i64 v))))),(27,.pl (.one (.v (.sc (.bool b)))))],[]⟩) ?_ ?_
    ·intro p
     refine qS ?_ ?_
     ·refine go ?_
      exact ge [0,3,27] [] 1 rfl
     ·refine go ?_; intro x25
      refine go ?_
      exact ge [0,3,27] [] 1 rfl
    ·rintro b _ rfl
     refine go ?_
     refine sp ?_ ?_
     ·exact gz
     ·refine go ?_
      exact bk [0,3] [] 1 rfl
   ·refine go ?_
    exact je [] [] 1 fun h=>⟨h,rfl⟩
  ·rintro e' ⟨h,rfl⟩; refine tl h ?_; unfold zS9
   exact gz
instance W_spec_l07With:∀ list_ x,Wlk X (zT6 list_ x) 211 [] [.one (.list false 1 (List.map (rK .i64) list_)),.one (.sc (.int .i64 x))] (fun r'=>[.one (.list true 1 (List.map (rK .i64) r'))]) (fun r'=>[]):=fun list_ x=>by
 refine ws f211 52 [.tmp 4] (h2 t3 (h2 t39 qI)) ?_
 intro r'; unfold zT6
 refine go ?_
 refine l1 ?_
 refine go ?_
 refine jn (fun e'=>∃ out_,zT0 list_ x out_=some r'∧e'=⟨52,2,3,[(0,.pl (.one (.v (.list false 1 (List.map (rK .i64) list_))))),(1,.pl (.one (.v (.sc (.int .i64 x))))),(5,.pl (.one (.ref 2 [])))],[(2,.list true 1 (List.map (rK .i64) out_))]⟩) ?_ ?_
 ·refine go ?_
  refine lp (fun s' e'=>∃ i_1 out__3,s'=(i_1,out__3)∧e'=⟨52,2,3,[(0,.pl (.one (.v (.list false 1 (List.map (rK .i64) list_))))),(1,.pl (.one (.v (.sc (.int .i64 x))))),(5,.pl (.one (.ref 2 []))),(6,.pl (.one (.v (.sc (.int .i64 i_1)))))],[(2,.list true 1 (List.map (rK .i64) out__3))]⟩) [0,1,5,6] [(3,2)] 3 ⟨_,_,rfl,rfl⟩ ?_
  rintro s' _ ⟨i_1,out__3,rfl,rfl⟩ y1'
  change Tl _ (zD1 list_ x i_1 out__3) _ _; unfold zD1
  refine sq ?_
  refine go ?_
  refine sp ?_ ?_
  ·refine go ?_
   refine sq ?_
   refine go ?_; intro x_2 v'
   refine go ?_
   refine sp ?_ ?_
   ·refine go ?_; intro l_2 v'
    refine go ?_
    exact bk [0,1,5,6] [(2,2)] 3 ⟨_,_,rfl,rfl⟩
   ·refine go ?_
    exact bk [0,1,5,6] [(2,2)] 3 ⟨_,_,rfl,rfl⟩
  ·refine go ?_
   exact je [0,1,5] [(2,2)] 3 fun h=>⟨_,h,rfl⟩
 ·rintro e' ⟨out_,h,rfl⟩; refine tl h ?_; unfold zT0
  refine go ?_; intro l v'
  refine go ?_
  refine jn (fun e'=>∃ out__1,qC6 out__1=some r'∧e'=⟨52,2,3,[(5,.pl (.one (.ref 2 [])))],[(2,.list true 1 (List.map (rK .i64) out__1))]⟩) ?_ ?_
  ·refine go ?_
   refine lp (fun s' e'=>∃ i out__2,s'=(i,out__2)∧e'=⟨52,2,3,[(0,.pl (.one (.v (.list false 1 (List.map (rK .i64) list_))))),(1,.pl (.one (.v (.sc (.int .i64 x))))),(5,.pl (.one (.ref 2 []))),(7,.pl (.one (.v (.sc (.int .i64 i)))))],[(2,.list true 1 (List.map (rK .i64) out__2))]⟩) [0,1,5,7] [(2,2)] 3 ⟨_,_,rfl,rfl⟩ ?_
   rintro s' _ ⟨i,out__2,rfl,rfl⟩ y1'
   change Tl _ (zC4 list_ x i out__2) _ _; unfold zC4
   refine sq ?_
   refine go ?_
   refine sp ?_ ?_
   ·refine go ?_
    refine sq ?_
    refine go ?_; intro x_1 v'
    refine go ?_
    refine sp ?_ ?_
    ·refine go ?_; intro l_1 v'
     refine go ?_
     exact bk [0,1,5,7] [(2,2)] 3 ⟨_,_,rfl,rfl⟩
    ·refine go ?_
     exact bk [0,1,5,7] [(2,2)] 3 ⟨_,_,rfl,rfl⟩
   ·refine go ?_
    exact je [5] [(2,2)] 3 fun h=>⟨_,h,rfl⟩
  ·rintro e' ⟨out__1,h,rfl⟩; refine tl h ?_; unfold qC6
   exact gz
instance W_spec_l07Without:∀ list_ x,Wlk X (zK9 list_ x) 212 [] [.one (.list false 1 (List.map (rK .i64) list_)),.one (.sc (.int .i64 x))] (fun r'=>[.one (.list true 1 (List.map (rK .i64) r'))]) (fun r'=>[]):=fun list_ x=>by
 refine ws f212 28 [.tmp 4] (h2 t3 (h2 t39 qI)) ?_
 intro r'; unfold zK9
 refine go ?_
 refine l1 ?_
 refine go ?_
 refine jn (fun e'=>∃ out_,zV1 out_=some r'∧e'=⟨28,2,3,[(5,.pl (.one (.ref 2 [])))],[(2,.list true 1 (List.map (rK .i64) out_))]⟩) ?_ ?_
 ·refine go ?_
  refine lp (fun s' e'=>∃ i out__1,s'=(i,out__1)∧e'=⟨28,2,3,[(0,.pl (.one (.v (.list false 1 (List.map (rK .i64) list_))))),(1,.pl (.one (.v (.sc (.int .i64 x))))),(5,.pl (.one (.ref 2 []))),(6,.pl (.one (.v (.sc (.int .i64 i)))))],[(2,.list true 1 (List.map (rK .i64) out__1))]⟩) [0,1,5,6] [(3,2)] 3 ⟨_,_,rfl,rfl⟩ ?_
  rintro s' _ ⟨i,out__1,rfl,rfl⟩ y1'
  change Tl _ (uD list_ x i out__1) _ _; unfold uD
  refine sq ?_
  refine go ?_
  refine sp ?_ ?_
  ·refine go ?_
   refine sq ?_
   refine go ?_; intro x_1 v'
   refine go ?_
   refine sp ?_ ?_
   ·refine go ?_; intro l v'
    refine go ?_
    exact bk [0,1,5,6] [(2,2)] 3 ⟨_,_,rfl,rfl⟩
   ·refine go ?_
    exact bk [0,1,5,6] [(2,2)] 3 ⟨_,_,rfl,rfl⟩
  ·refine go ?_
   exact je [5] [(2,2)] 3 fun h=>⟨_,h,rfl⟩
 ·rintro e' ⟨out_,h,rfl⟩; refine tl h ?_; unfold zV1
  exact gz
instance W_spec_l05Set:∀ parents list_,Wlk X (zR5 parents list_) 141 [] [.one (.list false 1 (List.map (rL false 1 (rK .i64)) parents)),.one (.list false 1 (List.map (rK .i64) list_))] (fun r'=>[.one (.list true 1 (List.map rB r'))]) (fun r'=>[]):=fun parents list_=>by
 refine ws f141 64 [.tmp 4] (h2 t3 (h2 t4 (h2 t24 (h2 t39 (h2 t188 (h2 jJ (h2 R_b qI))))))) ?_
 intro r'; unfold zR5
 refine go ?_
 refine l1 ?_
 refine go ?_; intro x11 v'
 refine go ?_
 refine jn (fun e'=>∃ in_,zV4 parents in_=some r'∧e'=⟨64,2,3,[(0,.pl (.one (.v (.list false 1 (List.map (rL false 1 (rK .i64)) parents))))),(5,.pl (.one (.ref 2 [])))],[(2,.list true 1 (List.map rB in_))]⟩) ?_ ?_
 ·refine go ?_
  refine lp (fun s' e'=>∃ i in__5,s'=(i,in__5)∧e'=⟨64,2,3,[(0,.pl (.one (.v (.list false 1 (List.map (rL false 1 (rK .i64)) parents))))),(1,.pl (.one (.v (.list false 1 (List.map (rK .i64) list_))))),(5,.pl (.one (.ref 2 []))),(6,.pl (.one (.v (.sc (.int .i64 i)))))],[(2,.list true 1 (List.map rB in__5))]⟩) [0,1,5,6] [(3,2)] 3 ⟨_,_,rfl,rfl⟩ ?_
  rintro s' _ ⟨i,in__5,rfl,rfl⟩ y1'
  change Tl _ (uC parents list_ i in__5) _ _; unfold uC
  refine sq ?_
  refine go ?_
  refine sp ?_ ?_
  ·refine go ?_
   refine sq ?_
   refine go ?_; intro x_5 v'
   refine go ?_; intro x25
   refine go ?_
   refine sp ?_ ?_
   ·refine go ?_; intro x_6 v'
    refine go ?_
    exact bk [0,1,5,6] [(2,2)] 3 ⟨_,_,rfl,rfl⟩
   ·refine go ?_
    exact bk [0,1,5,6] [(2,2)] 3 ⟨_,_,rfl,rfl⟩
  ·refine go ?_
   exact je [0,5] [(2,2)] 3 fun h=>⟨_,h,rfl⟩
 ·rintro e' ⟨in_,h,rfl⟩; refine tl h ?_; unfold zV4
  refine jn (fun e'=>∃ in__1,zW4 in__1=some r'∧e'=⟨64,2,3,[(5,.pl (.one (.ref 2 [])))],[(2,.list true 1 (List.map rB in__1))]⟩) ?_ ?_
  ·refine go ?_
   refine lp (fun s' e'=>∃ v in__2,s'=(v,in__2)∧e'=⟨64,2,3,[(0,.pl (.one (.v (.list false 1 (List.map (rL false 1 (rK .i64)) parents))))),(5,.pl (.one (.ref 2 []))),(7,.pl (.one (.v (.sc (.int .i64 v)))))],[(2,.list true 1 (List.map rB in__2))]⟩) [0,5,7] [(2,2)] 3 ⟨_,_,rfl,rfl⟩ ?_
   rintro s' _ ⟨v,in__2,rfl,rfl⟩ y1'
   change Tl _ (uB parents v in__2) _ _; unfold uB
   refine sq ?_
   refine go ?_
   refine sp ?_ ?_
   ·refine go ?_
    refine jn (fun e'=>∃ in__3,zV9 v in__3=some y1'∧e'=⟨64,2,3,[(0,.pl (.one (.v (.list false 1 (List.map (rL false 1 (rK .i64)) parents))))),(5,.pl (.one (.ref 2 []))),(7,.pl (.one (.v (.sc (.int .i64 v)))))],[(2,.list true 1 (List.map rB in__3))]⟩) ?_ ?_
    ·refine go ?_
     refine lp (fun s' e'=>∃ k in__4,s'=(k,in__4)∧e'=⟨64,2,3,[(0,.pl (.one (.v (.list false 1 (List.map (rL false 1 (rK .i64)) parents))))),(5,.pl (.one (.ref 2 []))),(7,.pl (.one (.v (.sc (.int .i64 v))))),(8,.pl (.one (.v (.sc (.int .i64 k)))))],[(2,.list true 1 (List.map rB in__4))]⟩) [0,5,7,8] [(2,2)] 3 ⟨_,_,rfl,rfl⟩ ?_
     rintro s' _ ⟨k,in__4,rfl,rfl⟩ y2'
     change Tl _ (uA parents v k in__4) _ _; unfold uA
     refine sq ?_
     refine go ?_; intro x v'
     refine go ?_
     refine gc 5 (fun b e'=>e'=⟨64,2,3,[(0,.pl (.one (.v (.list false 1 (List.map (rL false 1 (rK .i64)) parents))))),(5,.pl (.one (.ref 2 []))),(7,.pl (.one (.v (.sc (.int .i64 v))))),(8,.pl (.one (.v (.sc (.int .i64 k))))),(51,.pl (.one (.v (.sc (.bool b)))))],[(2,.list true 1 (List.map rB in__4))]⟩) ?_ ?_
     ·intro p
      refine yF ?_ ?_
      ·refine go ?_; intro x_1 v'
       refine go ?_
       exact ge [0,5,7,8,51] [(2,2)] 3 rfl
      ·refine go ?_
       exact ge [0,5,7,8,51] [(2,2)] 3 rfl
     ·rintro b _ rfl
      refine go ?_
      refine sp ?_ ?_
      ·refine go ?_
       refine sq ?_
       refine go ?_; intro x_2 v'
       refine go ?_; intro x_3 v'
       refine go ?_; intro x_4 v'
       refine go ?_
       exact bk [0,5,7,8] [(2,2)] 3 ⟨_,_,rfl,rfl⟩
      ·refine go ?_
       exact je [0,5,7] [(2,2)] 3 fun h=>⟨_,h,rfl⟩
    ·rintro e' ⟨in__3,h,rfl⟩; refine tl h ?_; unfold zV9
     refine go ?_
     exact bk [0,5,7] [(2,2)] 3 ⟨_,_,rfl,rfl⟩
   ·refine go ?_
    exact je [5] [(2,2)] 3 fun h=>⟨_,h,rfl⟩
  ·rintro e' ⟨in__1,h,rfl⟩; refine tl h ?_; unfold zW4
   exact gz
instance W_spec_LineOk:∀ line,Wlk X (zR4 line) 204 [] [.one (.sc (.string line))] (fun r'=>[.one (.sc (.bool r'))]) (fun r'=>[]):=fun line=>by
 refine ws f204 17 [.tmp 2] (h2 t3 (h2 t5 t9)) ?_
 intro r'; unfold zR4
 refine go ?_
 refine jn (fun e'=>zW3 line=some r'∧e'=⟨17,1,1,[(0,.pl (.one (.v (.sc (.string line)))))],[]⟩) ?_ ?_
 ·refine go ?_
  refine lp (fun i e'=>e'=⟨17,1,1,[(0,.pl (.one (.v (.sc (.string line))))),(3,.pl (.one (.v (.sc (.int .i64 i)))))],[]⟩) [0,3] [] 1 rfl ?_
  rintro i _ rfl y1'
  change Tl _ (uY line i) _ _; unfold uY
  refine sq ?_
  refine go ?_
  refine sp ?_ ?_
  ·refine go ?_
   refine sq ?_
   refine go ?_; intro x12 v'
   refine go ?_
   refine sp ?_ ?_
   ·exact gz
   ·refine go ?_
    exact bk [0,3] [] 1 rfl
  ·refine go ?_
   exact je [0] [] 1 fun h=>⟨h,rfl⟩
 ·rintro e' ⟨h,rfl⟩; refine tl h ?_; unfold zW3
  exact gz
instance W_spec_l06Live:∀ b in_,Wlk X (zB7 b in_) 206 [] [.agg [.sc (.string b.Line),.sc (.int .i64 b.Ins),.sc (.int .i64 b.Ord),.list false 1 (List.map (rK .i64) b.Dels)],.one (.list false 1 (List.map rB in_))] (fun r'=>[.one (.sc (.bool r'))]) (fun r'=>[]):=fun b in_=>by
 refine ws f206 47 [.tmp 4] (h2 t3 (h2 t4 (h2 t39 (h2 t46 (h2 t188 (h2 R_b qI)))))) ?_
 intro r'; unfold zB7
 refine go ?_
 refine sq ?_
 refine go ?_; intro x11
 refine go ?_
 refine gc 7 (fun b_1 e'=>e'=⟨47,5,6,[(1,.pl (.one (.v (.list false 1 (List.map rB in_))))),(2,.pl (.one (.ref 5 []))),(20,.pl (.one (.v (.sc (.bool b_1)))))],[(5,.box true [.sc (.string b.Line),.sc (.int .i64 b.Ins),.sc (.int .i64 b.Ord),.list false 1 (List.map (rK .i64) b.Dels)])]⟩) ?_ ?_
 ·intro p
  refine qS ?_ ?_
  ·refine go ?_
   exact ge [1,2,20] [(5,5)] 6 rfl
  ·refine go ?_; intro x v'
   refine go ?_
   exact ge [1,2,20] [(5,5)] 6 rfl
 ·rintro b_1 _ rfl
  refine go ?_
  refine sp ?_ ?_
  ·exact gz
  ·refine go ?_
   refine jn (fun e'=>qD4=some r'∧e'=⟨47,5,5,[],[]⟩) ?_ ?_
   ·refine go ?_
    refine lp (fun i e'=>e'=⟨47,5,6,[(1,.pl (.one (.v (.list false 1 (List.map rB in_))))),(2,.pl (.one (.ref 5 []))),(5,.pl (.one (.v (.sc (.int .i64 i)))))],[(5,.box true [.sc (.string b.Line),.sc (.int .i64 b.Ins),.sc (.int .i64 b.Ord),.list false 1 (List.map (rK .i64) b.Dels)])]⟩) [1,2,5] [(5,5)] 6 rfl ?_
    rintro i _ rfl y1'
    change Tl _ (zD0 b in_ i) _ _; unfold zD0
    refine sq ?_
    refine go ?_
    refine sp ?_ ?_
    ·refine go ?_
     refine sq ?_
     refine go ?_; intro x_1 v'
     refine go ?_; intro x36
     refine go ?_
     refine gc 9 (fun b_2 e'=>e'=⟨47,5,6,[(1,.pl (.one (.v (.list false 1 (List.map rB in_))))),(2,.pl (.one (.ref 5 []))),(5,.pl (.one (.v (.sc (.int .i64 i))))),(46,.pl (.one (.v (.sc (.bool b_2)))))],[(5,.box true [.sc (.string b.Line),.sc (.int .i64 b.Ins),.sc (.int .i64 b.Ord),.list false 1 (List.map (rK .i64) b.Dels)])]⟩) ?_ ?_
     ·intro p
      refine yF ?_ ?_
      ·refine go ?_; intro x_2 v'
       refine go ?_
       exact ge [1,2,5,46] [(5,5)] 6 rfl
      ·refine go ?_
       exact ge [1,2,5,46] [(5,5)] 6 rfl
     ·rintro b_2 _ rfl
      refine go ?_
      refine sp ?_ ?_
      ·exact gz
      ·refine go ?_
       exact bk [1,2,5] [(5,5)] 6 rfl
    ·refine go ?_
     exact je [] [] 5 fun h=>⟨h,rfl⟩
   ·rintro e' ⟨h,rfl⟩; refine tl h ?_; unfold qD4
    exact gz
instance W_spec_l06Closure:∀ w v,Wlk X (yN w v) 208 [] [.agg [.list false 1 (List.map (rL false 1 (rK .i64)) w.Parents),.list false 4 (List.map (zA false) w.Bodies)],.one (.sc (.int .i64 v))] (fun r'=>[.one (.list true 1 (List.map rB r'))]) (fun r'=>[]):=fun w v=>by
 refine ws f208 10 [.tmp 4] (h2 t3 (h2 t24 (h2 t27 (h2 t39 (h2 jJ (h2 zM (h2 R_b qI))))))) ?_
 intro r'; unfold yN
 refine go ?_
 refine l1 ?_
 refine go ?_; intro x9
 exact gz
instance W_spec_l06Places:∀ w in_,Wlk X (uE w in_) 207 [] [.agg [.list false 1 (List.map (rL false 1 (rK .i64)) w.Parents),.list false 4 (List.map (zA false) w.Bodies)],.one (.list false 1 (List.map rB in_))] (fun r'=>[.one (.list true 1 (List.map (rK .i64) r'))]) (fun r'=>[]):=fun w in_=>by
 refine ws f207 27 [.tmp 4] (h2 t3 (h2 t25 (h2 t27 (h2 t39 (h2 t46 (h2 jJ (h2 zM (h2 R_b qI)))))))) ?_
 intro r'; unfold uE
 refine go ?_
 refine l1 ?_
 refine go ?_
 refine jn (fun e'=>∃ out_,zX0 out_=some r'∧e'=⟨27,3,4,[(5,.pl (.one (.ref 3 [])))],[(3,.list true 1 (List.map (rK .i64) out_))]⟩) ?_ ?_
 ·refine go ?_
  refine lp (fun s' e'=>∃ i out__1,s'=(i,out__1)∧e'=⟨27,3,5,[(1,.pl (.one (.v (.list false 1 (List.map rB in_))))),(2,.pl (.one (.ref 3 []))),(5,.pl (.one (.ref 4 []))),(6,.pl (.one (.v (.sc (.int .i64 i)))))],[(3,.box true [.list false 1 (List.map (rL false 1 (rK .i64)) w.Parents),.list false 4 (List.map (zA false) w.Bodies)]),(4,.list true 1 (List.map (rK .i64) out__1))]⟩) [1,2,5,6] [(3,3),(5,4)] 5 ⟨_,_,rfl,rfl⟩ ?_
  rintro s' _ ⟨i,out__1,rfl,rfl⟩ y1'
  change Tl _ (kX w in_ i out__1) _ _; unfold kX
  refine sq ?_
  refine go ?_
  refine sp ?_ ?_
  ·refine go ?_
   refine sq ?_
   refine go ?_; intro x v'
   refine go ?_; intro x21
   refine go ?_
   refine sp ?_ ?_
   ·refine go ?_; intro l v'
    refine go ?_
    exact bk [1,2,5,6] [(3,3),(4,4)] 5 ⟨_,_,rfl,rfl⟩
   ·refine go ?_
    exact bk [1,2,5,6] [(3,3),(4,4)] 5 ⟨_,_,rfl,rfl⟩
  ·refine go ?_
   exact je [5] [(4,3)] 4 fun h=>⟨_,h,rfl⟩
 ·rintro e' ⟨out_,h,rfl⟩; refine tl h ?_; unfold zX0
  exact gz
instance W_spec_WeaveOk:∀ w,Wlk X (zU9 w) 117 [] [.agg [.list false 1 (List.map (rL false 1 (rK .i64)) w.Parents),.list false 4 (List.map (zA false) w.Bodies)]] (fun r'=>[.one (.sc (.bool r'))]) (fun r'=>[]):=fun w=>by
 refine ws f117 131 [.tmp 2] (h2 t3 (h2 t9 (h2 t24 (h2 t25 (h2 t27 (h2 t39 (h2 t46 (h2 t188 (h2 t249 (h2 R_Lb (h2 jJ (h2 zM (h2 R_b qI))))))))))))) ?_
 intro r'; unfold zU9
 refine go ?_
 refine sq ?_
 refine go ?_; intro x13
 refine go ?_
 refine gc 5 (fun b e'=>e'=⟨131,2,3,[(1,.pl (.one (.ref 2 []))),(20,.pl (.one (.v (.sc (.bool b)))))],[(2,.box true [.list false 1 (List.map (rL false 1 (rK .i64)) w.Parents),.list false 4 (List.map (zA false) w.Bodies)])]⟩) ?_ ?_
 ·intro p
  refine qS ?_ ?_
  ·refine go ?_
   exact ge [1,20] [(2,2)] 3 rfl
  ·refine go ?_
   exact ge [1,20] [(2,2)] 3 rfl
 ·rintro b _ rfl
  refine go ?_
  refine sp ?_ ?_
  ·exact gz
  ·refine go ?_; intro x25 v'
   refine go ?_
   refine jn (fun e'=>∃ proper,zT1 w x25 proper=some r'∧e'=⟨131,2,5,[(1,.pl (.one (.ref 2 []))),(3,.pl (.one (.v (.sc (.int .i64 (w.Parents.length:Int)))))),(4,.pl (.one (.ref 3 []))),(5,.pl (.one (.ref 4 [])))],[(2,.box true [.list false 1 (List.map (rL false 1 (rK .i64)) w.Parents),.list false 4 (List.map (zA false) w.Bodies)]),(3,.list true 1 (List.map (rK .i64) x25)),(4,.list true 1 (List.map (rL true 1 rB) proper))]⟩) ?_ ?_
   ·refine go ?_
    refine lp (fun s' e'=>∃ v_1 proper_1,s'=(v_1,proper_1)∧e'=⟨131,2,5,[(1,.pl (.one (.ref 2 []))),(3,.pl (.one (.v (.sc (.int .i64 (w.Parents.length:Int)))))),(4,.pl (.one (.ref 3 []))),(5,.pl (.one (.ref 4 []))),(6,.pl (.one (.v (.sc (.int .i64 v_1)))))],[(2,.box true [.list false 1 (List.map (rL false 1 (rK .i64)) w.Parents),.list false 4 (List.map (zA false) w.Bodies)]),(3,.list true 1 (List.map (rK .i64) x25)),(4,.list true 1 (List.map (rL true 1 rB) proper_1))]⟩) [1,3,4,5,6] [(2,2),(3,3),(4,4)] 5 ⟨_,_,rfl,rfl⟩ ?_
    rintro s' _ ⟨v_1,proper_1,rfl,rfl⟩ y1'
    change Tl _ (vM w v_1 proper_1) _ _; unfold vM
    refine sq ?_
    refine go ?_
    refine sp ?_ ?_
    ·refine go ?_
     refine sq ?_
     refine go ?_
     refine rc [0,1,2,3,4,5,6,7,8,9,10,11] ?_
     refine go ?_; intro x_6 v'
     refine go ?_; intro x40
     refine go ?_; intro l v'
     refine go ?_
     exact bk [1,3,4,5,6] [(2,2),(3,3),(4,4)] 5 ⟨_,_,rfl,rfl⟩
    ·refine go ?_
     exact je [1,3,4,5] [(2,2),(3,3),(4,4)] 5 fun h=>⟨_,h,rfl⟩
   ·rintro e' ⟨proper,h,rfl⟩; refine tl h ?_; unfold zT1
    refine jn (fun e'=>∃ born,zK5 w born=some r'∧e'=⟨131,2,4,[(1,.pl (.one (.ref 2 []))),(3,.pl (.one (.v (.sc (.int .i64 (w.Parents.length:Int)))))),(4,.pl (.one (.ref 3 [])))],[(2,.box true [.list false 1 (List.map (rL false 1 (rK .i64)) w.Parents),.list false 4 (List.map (zA false) w.Bodies)]),(3,.list true 1 (List.map (rK .i64) born))]⟩) ?_ ?_
    ·refine go ?_
     refine lp (fun s' e'=>∃ i born_1,s'=(i,born_1)∧e'=⟨131,2,5,[(1,.pl (.one (.ref 2 []))),(3,.pl (.one (.v (.sc (.int .i64 (w.Parents.length:Int)))))),(4,.pl (.one (.ref 3 []))),(5,.pl (.one (.ref 4 []))),(7,.pl (.one (.v (.sc (.int .i64 i)))))],[(2,.box true [.list false 1 (List.map (rL false 1 (rK .i64)) w.Parents),.list false 4 (List.map (zA false) w.Bodies)]),(3,.list true 1 (List.map (rK .i64) born_1)),(4,.list true 1 (List.map (rL true 1 rB) proper))]⟩) [1,3,4,5,7] [(2,2),(3,3),(4,4)] 5 ⟨_,_,rfl,rfl⟩ ?_
     rintro s' _ ⟨i,born_1,rfl,rfl⟩ y1'
     change Tl _ (xI w proper i born_1) _ _; unfold xI
     refine sq ?_
     refine go ?_
     refine sp ?_ ?_
     ·refine go ?_
      refine jn (fun e'=>∃ born_2,zS6 i born_2=some y1'∧e'=⟨131,2,5,[(1,.pl (.one (.ref 2 []))),(3,.pl (.one (.v (.sc (.int .i64 (w.Parents.length:Int)))))),(4,.pl (.one (.ref 3 []))),(5,.pl (.one (.ref 4 []))),(7,.pl (.one (.v (.sc (.int .i64 i)))))],[(2,.box true [.list false 1 (List.map (rL false 1 (rK .i64)) w.Parents),.list false 4 (List.map (zA false) w.Bodies)]),(3,.list true 1 (List.map (rK .i64) born_2)),(4,.list true 1 (List.map (rL true 1 rB) proper))]⟩) ?_ ?_
      ·refine go ?_; intro x_1 v'
       refine go ?_
       refine l1 ?_
       refine go ?_
       refine sq ?_
       refine go ?_
       refine rq ?_
       refine go ?_; intro x57
       refine go ?_
       refine qc 7 (fun b_2 e'=>e'=⟨131,2,6,[(1,.pl (.one (.ref 2 []))),(3,.pl (.one (.v (.sc (.int .i64 (w.Parents.length:Int)))))),(4,.pl (.one (.ref 3 []))),(5,.pl (.one (.ref 4 []))),(7,.pl (.one (.v (.sc (.int .i64 i))))),(8,.pl (.one (.ref 5 []))),(66,.pl (.one (.v (.sc (.bool b_2)))))],[(2,.box true [.list false 1 (List.map (rL false 1 (rK .i64)) w.Parents),.list false 4 (List.map (zA false) w.Bodies)]),(3,.list true 1 (List.map (rK .i64) born_1)),(4,.list true 1 (List.map (rL true 1 rB) proper)),(5,.box true [.sc (.string x_1.Line),.sc (.int .i64 x_1.Ins),.sc (.int .i64 x_1.Ord),.list false 1 (List.map (rK .i64) x_1.Dels)])]⟩) ?_ ?_
       ·intro p
        refine zA3 ?_ ?_
        ·refine go ?_
         exact ge [1,3,4,5,7,8,66] [(2,2),(3,3),(4,4),(5,5)] 6 rfl
        ·refine go ?_; intro x64
         refine go ?_
         exact ge [1,3,4,5,7,8,66] [(2,2),(3,3),(4,4),(5,5)] 6 rfl
       ·rintro b_2 _ rfl
        refine go ?_
        refine qc 9 (fun b_3 e'=>e'=⟨131,2,6,[(1,.pl (.one (.ref 2 []))),(3,.pl (.one (.v (.sc (.int .i64 (w.Parents.length:Int)))))),(4,.pl (.one (.ref 3 []))),(5,.pl (.one (.ref 4 []))),(7,.pl (.one (.v (.sc (.int .i64 i))))),(8,.pl (.one (.ref 5 []))),(76,.pl (.one (.v (.sc (.bool b_3)))))],[(2,.box true [.list false 1 (List.map (rL false 1 (rK .i64)) w.Parents),.list false 4 (List.map (zA false) w.Bodies)]),(3,.list true 1 (List.map (rK .i64) born_1)),(4,.list true 1 (List.map (rL true 1 rB) proper)),(5,.box true [.sc (.string x_1.Line),.sc (.int .i64 x_1.Ins),.sc (.int .i64 x_1.Ord),.list false 1 (List.map (rK .i64) x_1.Dels)])]⟩) ?_ ?_
        ·intro p
         refine zA3 ?_ ?_
         ·refine go ?_
          exact ge [1,3,4,5,7,8,76] [(2,2),(3,3),(4,4),(5,5)] 6 rfl
         ·refine go ?_; intro x_2 v'
          refine go ?_
          exact ge [1,3,4,5,7,8,76] [(2,2),(3,3),(4,4),(5,5)] 6 rfl
        ·rintro b_3 _ rfl
         refine go ?_
         refine qc 6 (fun b_4 e'=>e'=⟨131,2,6,[(1,.pl (.one (.ref 2 []))),(3,.pl (.one (.v (.sc (.int .i64 (w.Parents.length:Int)))))),(4,.pl (.one (.ref 3 []))),(5,.pl (.one (.ref 4 []))),(7,.pl (.one (.v (.sc (.int .i64 i))))),(8,.pl (.one (.ref 5 []))),(83,.pl (.one (.v (.sc (.bool b_4)))))],[(2,.box true [.list false 1 (List.map (rL false 1 (rK .i64)) w.Parents),.list false 4 (List.map (zA false) w.Bodies)]),(3,.list true 1 (List.map (rK .i64) born_1)),(4,.list true 1 (List.map (rL true 1 rB) proper)),(5,.box true [.sc (.string x_1.Line),.sc (.int .i64 x_1.Ins),.sc (.int .i64 x_1.Ord),.list false 1 (List.map (rK .i64) x_1.Dels)])]⟩) ?_ ?_
         ·intro p
          refine zA3 ?_ ?_
          ·refine go ?_
           exact ge [1,3,4,5,7,8,83] [(2,2),(3,3),(4,4),(5,5)] 6 rfl
          ·refine go ?_; intro x81
           refine go ?_
           exact ge [1,3,4,5,7,8,83] [(2,2),(3,3),(4,4),(5,5)] 6 rfl
         ·rintro b_4 _ rfl
          refine go ?_
          refine sp ?_ ?_
          ·exact gz
          ·refine go ?_
           refine rc [0,1,2,3,4,5,6,7,8,9,10] ?_
           refine go ?_; intro x_3 v'
           refine go ?_
           refine lp (fun k e'=>e'=⟨131,2,6,[(1,.pl (.one (.ref 2 []))),(3,.pl (.one (.v (.sc (.int .i64 (w.Parents.length:Int)))))),(4,.pl (.one (.ref 3 []))),(5,.pl (.one (.ref 4 []))),(7,.pl (.one (.v (.sc (.int .i64 i))))),(8,.pl (.one (.ref 5 []))),(9,.pl (.one (.v (.sc (.int .i64 k)))))],[(2,.box true [.list false 1 (List.map (rL false 1 (rK .i64)) w.Parents),.list false 4 (List.map (zA false) w.Bodies)]),(3,.list true 1 (List.map (rK .i64) (born_1.set x_1.Ins.toNat (wk .i64 (x_3+1))))),(4,.list true 1 (List.map (rL true 1 rB) proper)),(5,.box true [.sc (.string x_1.Line),.sc (.int .i64 x_1.Ins),.sc (.int .i64 x_1.Ord),.list false 1 (List.map (rK .i64) x_1.Dels)])]⟩) [1,3,4,5,7,8,9] [(2,2),(3,3),(4,4),(5,5)] 6 rfl ?_
           rintro k _ rfl y2'
           change Tl _ (zC6 proper x_1 k) _ _; unfold zC6
           refine sq ?_
           refine go ?_
           refine sp ?_ ?_
           ·refine go ?_
            refine sq ?_
            refine go ?_
            refine rq ?_
            refine go ?_; intro x_4 v'
            refine go ?_; intro x_5 v'
            refine go ?_; intro x110
            refine go ?_
            refine sp ?_ ?_
            ·exact gz
            ·refine go ?_
             exact bk [1,3,4,5,7,8,9] [(2,2),(3,3),(4,4),(5,5)] 6 rfl
           ·refine go ?_
            exact je [1,3,4,5,7] [(2,2),(3,3),(4,4)] 5 fun h=>⟨_,h,rfl⟩
      ·rintro e' ⟨born_2,h,rfl⟩; refine tl h ?_; unfold zS6
       refine go ?_
       exact bk [1,3,4,5,7] [(2,2),(3,3),(4,4)] 5 ⟨_,_,rfl,rfl⟩
     ·refine go ?_
      exact je [1,3,4] [(2,2),(3,3)] 4 fun h=>⟨_,h,rfl⟩
    ·rintro e' ⟨born,h,rfl⟩; refine tl h ?_; unfold zK5
     refine jn (fun e'=>qB0=some r'∧e'=⟨131,2,2,[],[]⟩) ?_ ?_
     ·refine go ?_
      refine lp (fun v e'=>e'=⟨131,2,4,[(1,.pl (.one (.ref 2 []))),(3,.pl (.one (.v (.sc (.int .i64 (w.Parents.length:Int)))))),(4,.pl (.one (.ref 3 []))),(10,.pl (.one (.v (.sc (.int .i64 v)))))],[(2,.box true [.list false 1 (List.map (rL false 1 (rK .i64)) w.Parents),.list false 4 (List.map (zA false) w.Bodies)]),(3,.list true 1 (List.map (rK .i64) born))]⟩) [1,3,4,10] [(2,2),(3,3)] 4 rfl ?_
      rintro v _ rfl y1'
      change Tl _ (zC7 w born v) _ _; unfold zC7
      refine sq ?_
      refine go ?_
      refine sp ?_ ?_
      ·refine go ?_
       refine sq ?_
       refine go ?_
       refine bx ?_; intro x v'; refine fk (geti_f v') ?_
       refine bx ?_; intro b_1 gh0_25_0
       refine jr (fun e'=>e'=⟨131,2,4,[(1,.pl (.one (.ref 2 []))),(3,.pl (.one (.v (.sc (.int .i64 (w.Parents.length:Int)))))),(4,.pl (.one (.ref 3 []))),(10,.pl (.one (.v (.sc (.int .i64 v))))),(130,.pl (.one (.v (.sc (.bool b_1)))))],[(2,.box true [.list false 1 (List.map (rL false 1 (rK .i64)) w.Parents),.list false 4 (List.map (zA false) w.Bodies)]),(3,.list true 1 (List.map (rK .i64) born))]⟩) ?_ ?_
       ·refine rc [0,1,2,3,4,5,6,7,8,9,10,11,12,13] ?_
        refine go ?_
        refine cs (fun c0=>?_) (fun c0=>?_)
        ·replace gh0_25_0:=(ifT c0).symm.trans gh0_25_0
         obtain rfl:=zso gh0_25_0
         refine go ?_
         exact gq [1,3,4,10,130] [(2,2),(3,3)] 4 rfl
        ·replace gh0_25_0:=(ifF c0).symm.trans gh0_25_0
         obtain ⟨x126,hy_x126,gh0_25_0⟩:=zbi gh0_25_0
         obtain ⟨x127,hy_x127,gh0_25_0⟩:=zbi gh0_25_0
         obtain rfl:=zso gh0_25_0
         refine go ?_
         refine cc hy_x126 ?_
         refine cc hy_x127 ?_
         refine go ?_
         exact gq [1,3,4,10,130] [(2,2),(3,3)] 4 rfl
       ·rintro e' rfl; refine cn ?_
        refine sp ?_ ?_
        ·exact gz
        ·refine go ?_
         exact bk [1,3,4,10] [(2,2),(3,3)] 4 rfl
      ·refine go ?_
       exact je [] [] 2 fun h=>⟨h,rfl⟩
     ·rintro e' ⟨h,rfl⟩; refine tl h ?_; unfold qB0
      exact gz
instance W_spec_l07In:∀ list_ x,Wlk X (zV5 list_ x) 322 [] [.one (.list false 1 (List.map (rK .i64) list_)),.one (.sc (.int .i64 x))] (fun r'=>[.one (.sc (.bool r'))]) (fun r'=>[]):=fun list_ x=>by
 refine ws f322 18 [.tmp 4] (h2 t3 (h2 t39 qI)) ?_
 intro r'; unfold zV5
 refine go ?_
 refine jn (fun e'=>qG4=some r'∧e'=⟨18,2,2,[],[]⟩) ?_ ?_
 ·refine go ?_
  refine lp (fun i e'=>e'=⟨18,2,2,[(0,.pl (.one (.v (.list false 1 (List.map (rK .i64) list_))))),(1,.pl (.one (.v (.sc (.int .i64 x))))),(5,.pl (.one (.v (.sc (.int .i64 i)))))],[]⟩) [0,1,5] [] 2 rfl ?_
  rintro i _ rfl y1'
  change Tl _ (zH8 list_ x i) _ _; unfold zH8
  refine sq ?_
  refine go ?_
  refine sp ?_ ?_
  ·refine go ?_
   refine sq ?_
   refine go ?_; intro x_1 v'
   refine go ?_
   refine sp ?_ ?_
   ·exact gz
   ·refine go ?_
    exact bk [0,1,5] [] 2 rfl
  ·refine go ?_
   exact je [] [] 2 fun h=>⟨h,rfl⟩
 ·rintro e' ⟨h,rfl⟩; refine tl h ?_; unfold qG4
  exact gz
instance W_spec_l07Marks:∀ a b,Wlk X (zI1 a b) 303 [] [.agg [.sc (.string a.Line),.sc (.int .i64 a.Ins),.sc (.int .i64 a.Ord),.list false 1 (List.map (rK .i64) a.Dels)],.agg [.sc (.string b.Line),.sc (.int .i64 b.Ins),.sc (.int .i64 b.Ord),.list false 1 (List.map (rK .i64) b.Dels)]] (fun r'=>[.one (.list true 3 (List.map (zB true) r'))]) (fun r'=>[]):=fun a b=>by
 refine ws f303 84 [.tmp 4] (h2 t3 (h2 t9 (h2 t30 (h2 t39 (h2 t46 (h2 t114 (h2 xJ qI))))))) ?_
 intro r'; unfold zI1
 refine go ?_
 refine lf ?_ (fun a g=>zB5 a 3 g)
 refine go ?_
 refine jn (fun e'=>∃ out_,zG8 a b out_=some r'∧e'=⟨84,8,11,[(2,.pl (.one (.ref 8 []))),(3,.pl (.one (.ref 9 []))),(5,.pl (.one (.ref 10 [])))],[(8,.box true [.sc (.string a.Line),.sc (.int .i64 a.Ins),.sc (.int .i64 a.Ord),.list false 1 (List.map (rK .i64) a.Dels)]),(9,.box true [.sc (.string b.Line),.sc (.int .i64 b.Ins),.sc (.int .i64 b.Ord),.list false 1 (List.map (rK .i64) b.Dels)]),(10,.list true 3 (List.map (zB true) out_))]⟩) ?_ ?_
 ·refine go ?_
  refine lp (fun s' e'=>∃ i_1 out__5,s'=(i_1,out__5)∧e'=⟨84,8,11,[(2,.pl (.one (.ref 8 []))),(3,.pl (.one (.ref 9 []))),(5,.pl (.one (.ref 10 []))),(6,.pl (.one (.v (.sc (.int .i64 i_1)))))],[(8,.box true [.sc (.string a.Line),.sc (.int .i64 a.Ins),.sc (.int .i64 a.Ord),.list false 1 (List.map (rK .i64) a.Dels)]),(9,.box true [.sc (.string b.Line),.sc (.int .i64 b.Ins),.sc (.int .i64 b.Ord),.list false 1 (List.map (rK .i64) b.Dels)]),(10,.list true 3 (List.map (zB true) out__5))]⟩) [2,3,5,6] [(8,8),(9,9),(11,10)] 11 ⟨_,_,rfl,rfl⟩ ?_
  rintro s' _ ⟨i_1,out__5,rfl,rfl⟩ y1'
  change Tl _ (zA2 a b i_1 out__5) _ _; unfold zA2
  refine sq ?_
  refine go ?_
  refine sp ?_ ?_
  ·refine go ?_
   refine sq ?_
   refine go ?_
   refine rq ?_
   refine go ?_; intro x_1 v'
   refine go ?_; intro x24
   refine go ?_
   refine sp ?_ ?_
   ·refine go ?_; intro l_3 v'
    refine go ?_
    exact bk [2,3,5,6] [(8,8),(9,9),(10,10)] 11 ⟨_,_,rfl,rfl⟩
   ·refine go ?_
    exact bk [2,3,5,6] [(8,8),(9,9),(10,10)] 11 ⟨_,_,rfl,rfl⟩
  ·refine go ?_
   exact je [2,3,5] [(8,8),(9,9),(10,10)] 11 fun h=>⟨_,h,rfl⟩
 ·rintro e' ⟨out_,h,rfl⟩; refine tl h ?_; unfold zG8
  refine jn (fun e'=>∃ out__1,yX a b out__1=some r'∧e'=⟨84,8,11,[(2,.pl (.one (.ref 8 []))),(3,.pl (.one (.ref 9 []))),(5,.pl (.one (.ref 10 [])))],[(8,.box true [.sc (.string a.Line),.sc (.int .i64 a.Ins),.sc (.int .i64 a.Ord),.list false 1 (List.map (rK .i64) a.Dels)]),(9,.box true [.sc (.string b.Line),.sc (.int .i64 b.Ins),.sc (.int .i64 b.Ord),.list false 1 (List.map (rK .i64) b.Dels)]),(10,.list true 3 (List.map (zB true) out__1))]⟩) ?_ ?_
  ·refine go ?_
   refine sp ?_ ?_
   ·refine jn (fun e'=>∃ out__4,zA1 a b out__4=some r'∧e'=⟨84,8,11,[(2,.pl (.one (.ref 8 []))),(3,.pl (.one (.ref 9 []))),(5,.pl (.one (.ref 10 [])))],[(8,.box true [.sc (.string a.Line),.sc (.int .i64 a.Ins),.sc (.int .i64 a.Ord),.list false 1 (List.map (rK .i64) a.Dels)]),(9,.box true [.sc (.string b.Line),.sc (.int .i64 b.Ins),.sc (.int .i64 b.Ord),.list false 1 (List.map (rK .i64) b.Dels)]),(10,.list true 3 (List.map (zB true) out__4))]⟩) ?_ ?_
    ·refine go ?_
     refine sp ?_ ?_
     ·refine go ?_; intro l_2 v'
      refine go ?_
      exact je [2,3,5] [(8,8),(9,9),(10,10)] 11 fun h=>⟨_,h,rfl⟩
     ·refine go ?_
      exact je [2,3,5] [(8,8),(9,9),(10,10)] 11 fun h=>⟨_,h,rfl⟩
    ·rintro e' ⟨out__4,h,rfl⟩; refine tl h ?_; unfold zA1
     refine go ?_
     refine sp ?_ ?_
     ·refine go ?_; intro l_1 v'
      refine go ?_
      exact je [2,3,5] [(8,8),(9,9),(10,10)] 11 fun h=>⟨_,h,rfl⟩
     ·refine go ?_
      exact je [2,3,5] [(8,8),(9,9),(10,10)] 11 fun h=>⟨_,h,rfl⟩
   ·refine go ?_
    exact je [2,3,5] [(8,8),(9,9),(10,10)] 11 fun h=>⟨_,h,rfl⟩
  ·rintro e' ⟨out__1,h,rfl⟩; refine tl h ?_; unfold yX
   refine jn (fun e'=>∃ out__2,zZ1 out__2=some r'∧e'=⟨84,8,9,[(5,.pl (.one (.ref 8 [])))],[(8,.list true 3 (List.map (zB true) out__2))]⟩) ?_ ?_
   ·refine go ?_
    refine lp (fun s' e'=>∃ i out__3,s'=(i,out__3)∧e'=⟨84,8,11,[(2,.pl (.one (.ref 8 []))),(3,.pl (.one (.ref 9 []))),(5,.pl (.one (.ref 10 []))),(7,.pl (.one (.v (.sc (.int .i64 i)))))],[(8,.box true [.sc (.string a.Line),.sc (.int .i64 a.Ins),.sc (.int .i64 a.Ord),.list false 1 (List.map (rK .i64) a.Dels)]),(9,.box true [.sc (.string b.Line),.sc (.int .i64 b.Ins),.sc (.int .i64 b.Ord),.list false 1 (List.map (rK .i64) b.Dels)]),(10,.list true 3 (List.map (zB true) out__3))]⟩) [2,3,5,7] [(8,8),(9,9),(10,10)] 11 ⟨_,_,rfl,rfl⟩ ?_
    rintro s' _ ⟨i,out__3,rfl,rfl⟩ y1'
    change Tl _ (zA8 a b i out__3) _ _; unfold zA8
    refine sq ?_
    refine go ?_
    refine sp ?_ ?_
    ·refine go ?_
     refine sq ?_
     refine go ?_
     refine rq ?_
     refine go ?_; intro x v'
     refine go ?_; intro x72
     refine go ?_
     refine sp ?_ ?_
     ·refine go ?_; intro l v'
      refine go ?_
      exact bk [2,3,5,7] [(8,8),(9,9),(10,10)] 11 ⟨_,_,rfl,rfl⟩
     ·refine go ?_
      exact bk [2,3,5,7] [(8,8),(9,9),(10,10)] 11 ⟨_,_,rfl,rfl⟩
    ·refine go ?_
     exact je [5] [(10,8)] 9 fun h=>⟨_,h,rfl⟩
   ·rintro e' ⟨out__2,h,rfl⟩; refine tl h ?_; unfold zZ1
    exact gz
instance W_spec_l07Records:∀ w,Wlk X (zJ2 w) 266 [] [.agg [.list false 1 (List.map (rL false 1 (rK .i64)) w.Parents),.list false 4 (List.map (zA false) w.Bodies)]] (fun r'=>[.one (.list true 3 (List.map (zB true) r'))]) (fun r'=>[]):=fun w=>by
 refine ws f266 40 [.tmp 2] (h2 t3 (h2 t9 (h2 t25 (h2 t27 (h2 t30 (h2 t39 (h2 t46 (h2 t114 (h2 jJ (h2 zM (h2 xJ qI))))))))))) ?_
 intro r'; unfold zJ2
 refine go ?_
 refine lf ?_ (fun a g=>zB5 a 3 g)
 refine go ?_
 refine l1 ?_
 refine go ?_
 refine jn (fun e'=>∃ out_ last last_1 last_2 last_3,zK1 out_ last last_1 last_2 last_3=some r'∧e'=⟨40,2,4,[(3,.pl (.one (.ref 2 []))),(4,.pl (.one (.ref 3 [])))],[(2,.list true 3 (List.map (zB true) out_)),(3,.box true [.sc (.string last),.sc (.int .i64 last_1),.sc (.int .i64 last_2),.list false 1 (List.map (rK .i64) last_3)])]⟩) ?_ ?_
 ·refine go ?_
  refine tI 5 ?_
  refine go ?_
  refine lp (fun s' e'=>∃ i out__1 last_4 last_5 last_6 last_7,s'=(i,out__1,last_4,last_5,last_6,last_7)∧e'=⟨40,2,5,[(1,.pl (.one (.ref 2 []))),(3,.pl (.one (.ref 3 []))),(4,.pl (.one (.ref 4 []))),(5,.pl (.one (.v (.sc (.int .i64 i)))))],[(2,.box true [.list false 1 (List.map (rL false 1 (rK .i64)) w.Parents),.list false 4 (List.map (zA false) w.Bodies)]),(3,.list true 3 (List.map (zB true) out__1)),(4,.box true [.sc (.string last_4),.sc (.int .i64 last_5),.sc (.int .i64 last_6),.list false 1 (List.map (rK .i64) last_7)])]⟩) [1,3,4,5] [(2,2),(4,3),(5,4)] 5 ⟨_,_,_,_,_,_,rfl,rfl⟩ ?_
  rintro s' _ ⟨i,out__1,last_4,last_5,last_6,last_7,rfl,rfl⟩ y1'
  change Tl _ (kJ w i out__1 last_4 last_5 last_6 last_7) _ _; unfold kJ
  refine sq ?_
  refine go ?_
  refine sp ?_ ?_
  ·refine go ?_
   refine sq ?_
   refine go ?_
   refine rc [0,1,2,3,4,5,6,7,8,9] ?_
   refine go ?_; intro x v'
   refine go ?_; intro x22
   refine go ?_; intro l_1 v'
   refine go ?_; intro x_1 v'
   refine go ?_; intro l_2 v'
   refine go ?_
   exact bk [1,3,4,5] [(2,2),(3,3),(4,4)] 5 ⟨_,_,_,_,_,_,rfl,rfl⟩
  ·refine go ?_
   exact je [3,4] [(3,2),(4,3)] 4 fun h=>⟨_,_,_,_,_,h,rfl⟩
 ·rintro e' ⟨out_,last,last_1,last_2,last_3,h,rfl⟩; refine tl h ?_; unfold zK1
  refine go ?_
  refine cN [(7,false,1)] ?_; intro x38
  refine go ?_; intro l v'
  exact gz
instance W_spec_Records:∀ w,Wlk X (zG5 w) 213 [] [.agg [.list false 1 (List.map (rL false 1 (rK .i64)) w.Parents),.list false 4 (List.map (zA false) w.Bodies)]] (fun r'=>[.one (.list true 3 (List.map (zB true) r'.1)),.one (.sc (.bool r'.2))]) (fun r'=>[]):=fun w=>by
 refine ws f213 16 [.tmp 2,.tmp 3] (h2 t3 (h2 t27 (h2 t30 (h2 t114 (h2 jJ (h2 zM (h2 xJ qI))))))) ?_
 intro r'; unfold zG5
 refine go ?_
 refine lf ?_ (fun a g=>zB5 a 3 g)
 refine go ?_
 refine sq ?_
 refine go ?_; intro x6
 refine go ?_
 refine sp ?_ ?_
 ·exact gz
 ·refine go ?_; intro x10
  refine go ?_
  refine sq ?_
  refine go ?_
  refine sp ?_ ?_
  ·exact gz
  ·exact gz
instance W_spec_l07Same:∀ a b,Wlk X (zT8 a b) 214 [] [.one (.list false 3 (List.map (zB true) a)),.one (.list false 3 (List.map (zB true) b))] (fun r'=>[.one (.sc (.bool r'))]) (fun r'=>[]):=fun a b=>by
 refine ws f214 26 [.tmp 4] (h2 t3 (h2 t9 (h2 t30 (h2 t114 xJ)))) ?_
 intro r'; unfold zT8
 refine go ?_
 refine sq ?_
 refine go ?_
 refine sp ?_ ?_
 ·exact gz
 ·refine go ?_
  refine jn (fun e'=>qB8=some r'∧e'=⟨26,2,2,[],[]⟩) ?_ ?_
  ·refine go ?_
   refine lp (fun i e'=>e'=⟨26,2,2,[(0,.pl (.one (.v (.list false 3 (List.map (zB true) a))))),(1,.pl (.one (.v (.list false 3 (List.map (zB true) b))))),(5,.pl (.one (.v (.sc (.int .i64 i)))))],[]⟩) [0,1,5] [] 2 rfl ?_
   rintro i _ rfl y1'
   change Tl _ (zC3 a b i) _ _; unfold zC3
   refine sq ?_
   refine go ?_
   refine sp ?_ ?_
   ·refine go ?_
    refine sq ?_
    refine go ?_
    refine rq ?_
    refine go ?_; intro x v'
    refine go ?_; intro x_1 v'
    refine go ?_
    refine lf ?_ (fun a g=>quV_cmp a (by kernel_rfl) g)
    refine go ?_
    refine sp ?_ ?_
    ·exact gz
    ·refine go ?_
     exact bk [0,1,5] [] 2 rfl
   ·refine go ?_
    exact je [] [] 2 fun h=>⟨h,rfl⟩
  ·rintro e' ⟨h,rfl⟩; refine tl h ?_; unfold qB8
   exact gz
instance W_spec_FromRecords:∀ parents list_,Wlk X (zG4 parents list_) 123 [] [.one (.list false 1 (List.map (rL false 1 (rK .i64)) parents)),.one (.list false 3 (List.map (zB true) list_))] (fun r'=>[.agg [.list true 1 (List.map (rL true 1 (rK .i64)) r'.1.Parents),.list true 4 (List.map (zA true) r'.1.Bodies)],.one (.sc (.bool r'.2))]) (fun r'=>[]):=fun parents list_=>by
 refine ws f123 146 [.cell 4 27,.tmp 5] (h2 t3 (h2 t9 (h2 t24 (h2 t25 (h2 t27 (h2 t30 (h2 t39 (h2 t46 (h2 t114 (h2 jJ (h2 zM (h2 xJ qI)))))))))))) ?_
 intro r'; unfold zG4
 refine go ?_
 refine l1 ?_
 refine go ?_
 refine sq ?_
 refine go ?_; intro x15
 refine go ?_
 refine gc 4 (fun b e'=>e'=⟨146,2,3,[(0,.pl (.one (.v (.list false 1 (List.map (rL false 1 (rK .i64)) parents))))),(1,.pl (.one (.v (.list false 3 (List.map (zB true) list_))))),(4,.pl (.one (.ref 2 []))),(21,.pl (.one (.v (.sc (.bool b)))))],[(2,.box true [.list true 1 (List.map (rL true 1 (rK .i64)) []),.list true 4 (List.map (zA true) [])])]⟩) ?_ ?_
 ·intro p
  refine qS ?_ ?_
  ·refine go ?_
   exact ge [0,1,4,21] [(2,2)] 3 rfl
  ·refine go ?_
   exact ge [0,1,4,21] [(2,2)] 3 rfl
 ·rintro b _ rfl
  refine go ?_
  refine sp ?_ ?_
  ·exact gz
  ·refine go ?_
   refine l1 ?_
   refine go ?_
   refine jn (fun e'=>∃ w,zH4 parents list_ w=some r'∧e'=⟨146,2,4,[(0,.pl (.one (.v (.list false 1 (List.map (rL false 1 (rK .i64)) parents))))),(1,.pl (.one (.v (.list false 3 (List.map (zB true) list_))))),(4,.pl (.one (.ref 2 []))),(6,.pl (.one (.ref 3 [])))],[(2,.box true [.list true 1 (List.map (rL true 1 (rK .i64)) []),.list true 4 (List.map (zA true) [])]),(3,.box true [.list true 1 (List.map (rL true 1 (rK .i64)) w),.list true 4 (List.map (zA true) [])])]⟩) ?_ ?_
   ·refine go ?_
    refine lp (fun s' e'=>∃ v w_4,s'=(v,w_4)∧e'=⟨146,2,4,[(0,.pl (.one (.v (.list false 1 (List.map (rL false 1 (rK .i64)) parents))))),(1,.pl (.one (.v (.list false 3 (List.map (zB true) list_))))),(4,.pl (.one (.ref 2 []))),(6,.pl (.one (.ref 3 []))),(7,.pl (.one (.v (.sc (.int .i64 v)))))],[(2,.box true [.list true 1 (List.map (rL true 1 (rK .i64)) []),.list true 4 (List.map (zA true) [])]),(3,.box true [.list true 1 (List.map (rL true 1 (rK .i64)) w_4),.list true 4 (List.map (zA true) [])])]⟩) [0,1,4,6,7] [(2,2),(3,3)] 4 ⟨_,_,rfl,rfl⟩ ?_
    rintro s' _ ⟨v,w_4,rfl,rfl⟩ y1'
    change Tl _ (vK parents v w_4) _ _; unfold vK
    refine sq ?_
    refine go ?_
    refine sp ?_ ?_
    ·refine go ?_
     refine sq ?_
     refine go ?_
     refine rc [0,3,4,5,1,2,6,7,8,9,10,11] ?_
     refine go ?_; intro x_3 v'
     refine go ?_; intro l_2 v'
     refine fk (appz_f (rK .i64) v') ?_
     refine go ?_; intro l_3 v'
     refine go ?_
     exact bk [0,1,4,6,7] [(2,2),(3,3)] 4 ⟨_,_,rfl,rfl⟩
    ·refine go ?_
     exact je [0,1,4,6] [(2,2),(3,3)] 4 fun h=>⟨_,h,rfl⟩
   ·rintro e' ⟨w,h,rfl⟩; refine tl h ?_; unfold zH4
    refine go ?_; intro x43 v'
    refine go ?_
    refine l1 ?_
    refine go ?_
    refine jn (fun e'=>∃ w_1,uV list_ w w_1=some r'∧e'=⟨146,2,4,[(1,.pl (.one (.v (.list false 3 (List.map (zB true) list_))))),(4,.pl (.one (.ref 2 []))),(6,.pl (.one (.ref 3 [])))],[(2,.box true [.list true 1 (List.map (rL true 1 (rK .i64)) []),.list true 4 (List.map (zA true) [])]),(3,.box true [.list true 1 (List.map (rL true 1 (rK .i64)) w),.list true 4 (List.map (zA true) w_1)])]⟩) ?_ ?_
    ·refine go ?_
     refine lp (fun s' e'=>∃ i w_2 born now now_1,s'=(i,w_2,born,now,now_1)∧e'=⟨146,2,6,[(0,.pl (.one (.v (.list false 1 (List.map (rL false 1 (rK .i64)) parents))))),(1,.pl (.one (.v (.list false 3 (List.map (zB true) list_))))),(4,.pl (.one (.ref 2 []))),(6,.pl (.one (.ref 3 []))),(8,.pl (.one (.ref 4 []))),(9,.pl (.one (.ref 5 []))),(10,.pl (.one (.v (.sc (.int .i64 i)))))],[(2,.box true [.list true 1 (List.map (rL true 1 (rK .i64)) []),.list true 4 (List.map (zA true) [])]),(3,.box true [.list true 1 (List.map (rL true 1 (rK .i64)) w),.list true 4 (List.map (zA true) w_2)]),(4,.list true 1 (List.map (rK .i64) born)),(5,.box true [.sc (.string (ByteArray.mk #[])),.sc (.int .i64 now),.sc (.int .i64 0),.list true 1 (List.map (rK .i64) now_1)])]⟩) [0,1,4,6,8,9,10] [(2,2),(3,3),(4,4),(5,5)] 6 ⟨_,_,_,_,_,rfl,rfl⟩ ?_
     rintro s' _ ⟨i,w_2,born,now,now_1,rfl,rfl⟩ y1'
     change Tl _ (qQ parents list_ i w_2 born now now_1) _ _; unfold qQ
     refine sq ?_
     refine go ?_
     refine sp ?_ ?_
     ·refine go ?_
      refine sq ?_
      refine go ?_; intro x v'
      refine go ?_
      refine l1 ?_
      refine go ?_
      refine jn (fun e'=>∃ w_3 born_1 now_2 now_3,zO i w_3 born_1 now_2 now_3=some y1'∧e'=⟨146,2,6,[(0,.pl (.one (.v (.list false 1 (List.map (rL false 1 (rK .i64)) parents))))),(1,.pl (.one (.v (.list false 3 (List.map (zB true) list_))))),(4,.pl (.one (.ref 2 []))),(6,.pl (.one (.ref 3 []))),(8,.pl (.one (.ref 4 []))),(9,.pl (.one (.ref 5 []))),(10,.pl (.one (.v (.sc (.int .i64 i)))))],[(2,.box true [.list true 1 (List.map (rL true 1 (rK .i64)) []),.list true 4 (List.map (zA true) [])]),(3,.box true [.list true 1 (List.map (rL true 1 (rK .i64)) w),.list true 4 (List.map (zA true) w_3)]),(4,.list true 1 (List.map (rK .i64) born_1)),(5,.box true [.sc (.string (ByteArray.mk #[])),.sc (.int .i64 now_2),.sc (.int .i64 0),.list true 1 (List.map (rK .i64) now_3)])]⟩) ?_ ?_
      ·refine go ?_
       refine sp ?_ ?_
       ·refine go ?_
        exact je [0,1,4,6,8,9,10] [(2,2),(3,3),(4,4),(5,5)] 6 fun h=>⟨_,_,_,_,h,rfl⟩
       ·refine go ?_
        refine sp ?_ ?_
        ·refine go ?_
         exact je [0,1,4,6,8,9,10] [(2,2),(3,3),(4,4),(5,5)] 6 fun h=>⟨_,_,_,_,h,rfl⟩
        ·refine go ?_
         refine sp ?_ ?_
         ·refine go ?_; intro x71
          refine go ?_
          exact je [0,1,4,6,8,9,10] [(2,2),(3,3),(4,4),(5,5)] 6 fun h=>⟨_,_,_,_,h,rfl⟩
         ·refine go ?_
          refine sp ?_ ?_
          ·refine go ?_; intro x79
           refine go ?_
           exact je [0,1,4,6,8,9,10] [(2,2),(3,3),(4,4),(5,5)] 6 fun h=>⟨_,_,_,_,h,rfl⟩
          ·refine go ?_
           refine sp ?_ ?_
           ·refine sq ?_
            refine go ?_; intro x88
            refine go ?_
            refine sp ?_ ?_
            ·exact gz
            ·refine go ?_
             refine rO 5 [0,2,4,6,7,12,1,3,5,8,9,10,11,13,14,15,16,17,18,19] ?_
             refine go ?_; intro x_1 v'
             refine go ?_; intro l v'
             refine fk (appz_f (rK .i64) v') ?_
             refine go ?_; intro l_1 v'
             refine go ?_
             refine bO 5 [0,1,9,10] [4,6,8] ?_
             refine rc [0,1,2,3,4,5,6,7,8,9,10] ?_
             refine go ?_; intro x_2 v'
             refine go ?_
             exact je [0,1,4,6,8,9,10] [(2,2),(3,3),(4,4),(5,5)] 6 fun h=>⟨_,_,_,_,h,rfl⟩
           ·refine go ?_
            exact je [0,1,4,6,8,9,10] [(2,2),(3,3),(4,4),(5,5)] 6 fun h=>⟨_,_,_,_,h,rfl⟩
      ·rintro e' ⟨w_3,born_1,now_2,now_3,h,rfl⟩; refine tl h ?_; unfold zO
       refine go ?_
       refine gc 5 (fun b_2 e'=>e'=⟨146,2,6,[(0,.pl (.one (.v (.list false 1 (List.map (rL false 1 (rK .i64)) parents))))),(1,.pl (.one (.v (.list false 3 (List.map (zB true) list_))))),(4,.pl (.one (.ref 2 []))),(6,.pl (.one (.ref 3 []))),(8,.pl (.one (.ref 4 []))),(9,.pl (.one (.ref 5 []))),(10,.pl (.one (.v (.sc (.int .i64 i))))),(129,.pl (.one (.v (.sc (.bool b_2)))))],[(2,.box true [.list true 1 (List.map (rL true 1 (rK .i64)) []),.list true 4 (List.map (zA true) [])]),(3,.box true [.list true 1 (List.map (rL true 1 (rK .i64)) w),.list true 4 (List.map (zA true) w_3)]),(4,.list true 1 (List.map (rK .i64) born_1)),(5,.box true [.sc (.string (ByteArray.mk #[])),.sc (.int .i64 now_2),.sc (.int .i64 0),.list true 1 (List.map (rK .i64) now_3)])]⟩) ?_ ?_
       ·intro p
        refine qS ?_ ?_
        ·refine go ?_
         exact ge [0,1,4,6,8,9,10,129] [(2,2),(3,3),(4,4),(5,5)] 6 rfl
        ·refine go ?_
         exact ge [0,1,4,6,8,9,10,129] [(2,2),(3,3),(4,4),(5,5)] 6 rfl
       ·rintro b_2 _ rfl
        refine go ?_
        refine sp ?_ ?_
        ·exact gz
        ·refine go ?_
         exact bk [0,1,4,6,8,9,10] [(2,2),(3,3),(4,4),(5,5)] 6 ⟨_,_,_,_,_,rfl,rfl⟩
     ·refine go ?_
      exact je [1,4,6] [(2,2),(3,3)] 4 fun h=>⟨_,h,rfl⟩
    ·rintro e' ⟨w_1,h,rfl⟩; refine tl h ?_; unfold uV
     refine go ?_; intro x133
     refine go ?_
     refine sq ?_
     refine go ?_
     refine gc 5 (fun b_1 e'=>e'=⟨146,2,4,[(4,.pl (.one (.ref 2 []))),(6,.pl (.one (.ref 3 []))),(143,.pl (.one (.v (.sc (.bool b_1)))))],[(2,.box true [.list true 1 (List.map (rL true 1 (rK .i64)) []),.list true 4 (List.map (zA true) [])]),(3,.box true [.list true 1 (List.map (rL true 1 (rK .i64)) w),.list true 4 (List.map (zA true) w_1)])]⟩) ?_ ?_
     ·intro p
      refine qS ?_ ?_
      ·refine go ?_
       exact ge [4,6,143] [(2,2),(3,3)] 4 rfl
      ·refine go ?_; intro x141
       refine go ?_
       exact ge [4,6,143] [(2,2),(3,3)] 4 rfl
     ·rintro b_1 _ rfl
      refine go ?_
      refine sp ?_ ?_
      ·exact gz
      ·exact gz
instance W_spec_l06Lines:∀ w places,Wlk X (zI8 w places) 177 [] [.agg [.list false 1 (List.map (rL false 1 (rK .i64)) w.Parents),.list false 4 (List.map (zA false) w.Bodies)],.one (.list false 1 (List.map (rK .i64) places))] (fun r'=>[.one (.list true 1 (List.map rS r'))]) (fun r'=>[]):=fun w places=>by
 refine ws f177 27 [.tmp 4] (h2 t3 (h2 t9 (h2 t25 (h2 t27 (h2 t36 (h2 t39 (h2 t46 (h2 jJ (h2 zM (h2 qI R_s)))))))))) ?_
 intro r'; unfold zI8
 refine go ?_
 refine l1 ?_
 refine go ?_
 refine jn (fun e'=>∃ out_,qA0 out_=some r'∧e'=⟨27,3,4,[(5,.pl (.one (.ref 3 [])))],[(3,.list true 1 (List.map rS out_))]⟩) ?_ ?_
 ·refine go ?_
  refine lp (fun s' e'=>∃ i out__1,s'=(i,out__1)∧e'=⟨27,3,5,[(1,.pl (.one (.v (.list false 1 (List.map (rK .i64) places))))),(2,.pl (.one (.ref 3 []))),(5,.pl (.one (.ref 4 []))),(6,.pl (.one (.v (.sc (.int .i64 i)))))],[(3,.box true [.list false 1 (List.map (rL false 1 (rK .i64)) w.Parents),.list false 4 (List.map (zA false) w.Bodies)]),(4,.list true 1 (List.map rS out__1))]⟩) [1,2,5,6] [(3,3),(5,4)] 5 ⟨_,_,rfl,rfl⟩ ?_
  rintro s' _ ⟨i,out__1,rfl,rfl⟩ y1'
  change Tl _ (vU w places i out__1) _ _; unfold vU
  refine sq ?_
  refine go ?_
  refine sp ?_ ?_
  ·refine go ?_
   refine sq ?_
   refine go ?_
   refine rc [0,1,2,3,4,5,6,7,8,9,10,11,12] ?_
   refine go ?_; intro x v'
   refine go ?_; intro x_1 v'
   refine go ?_; intro l v'
   refine go ?_
   exact bk [1,2,5,6] [(3,3),(4,4)] 5 ⟨_,_,rfl,rfl⟩
  ·refine go ?_
   exact je [5] [(4,3)] 4 fun h=>⟨_,h,rfl⟩
 ·rintro e' ⟨out_,h,rfl⟩; refine tl h ?_; unfold qA0
  exact gz
instance W_spec_l06Text:∀ w v,Wlk X (zO1 w v) 119 [] [.agg [.list false 1 (List.map (rL false 1 (rK .i64)) w.Parents),.list false 4 (List.map (zA false) w.Bodies)],.one (.sc (.int .i64 v))] (fun r'=>[.one (.list true 1 (List.map rS r'))]) (fun r'=>[]):=fun w v=>by
 refine ws f119 12 [.tmp 4] (h2 t27 (h2 jJ (h2 zM (h2 R_b (h2 qI R_s))))) ?_
 intro r'; unfold zO1
 refine go ?_
 refine l1 ?_
 refine go ?_
 refine rc [3,0,1,2,4,5,6,7] ?_
 refine go ?_; intro x9
 refine go ?_; intro x10
 refine go ?_; intro x11
 exact gz
instance W_spec_l03All:∀ list_ most,Wlk X (zX8 list_ most) 209 [] [.one (.list false 1 (List.map rS list_)),.one (.sc (.int .i64 most))] (fun r'=>[.one (.sc (.bool r'))]) (fun r'=>[]):=fun list_ most=>by
 refine ws f209 22 [.tmp 4] (h2 t3 (h2 t9 (h2 t36 R_s))) ?_
 intro r'; unfold zX8
 refine go ?_
 refine sq ?_
 refine go ?_
 refine sp ?_ ?_
 ·exact gz
 ·refine go ?_
  refine jn (fun e'=>qF0=some r'∧e'=⟨22,2,2,[],[]⟩) ?_ ?_
  ·refine go ?_
   refine lp (fun i e'=>e'=⟨22,2,2,[(0,.pl (.one (.v (.list false 1 (List.map rS list_))))),(5,.pl (.one (.v (.sc (.int .i64 i)))))],[]⟩) [0,5] [] 2 rfl ?_
   rintro i _ rfl y1'
   change Tl _ (zF5 list_ i) _ _; unfold zF5
   refine sq ?_
   refine go ?_
   refine sp ?_ ?_
   ·refine go ?_
    refine sq ?_
    refine go ?_; intro x v'
    refine go ?_; intro x20
    refine go ?_
    refine sp ?_ ?_
    ·exact gz
    ·refine go ?_
     exact bk [0,5] [] 2 rfl
   ·refine go ?_
    exact je [] [] 2 fun h=>⟨h,rfl⟩
  ·rintro e' ⟨h,rfl⟩; refine tl h ?_; unfold qF0
   exact gz
instance W_spec_LinesOk:∀ list_,Wlk X (zU0 list_) 120 [] [.one (.list false 1 (List.map rS list_))] (fun r'=>[.one (.sc (.bool r'))]) (fun r'=>[]):=fun list_=>by
 refine ws f120 5 [.tmp 2] R_s ?_
 intro r'; unfold zU0
 refine go ?_; intro x4
 exact gz
instance W_spec_JoinLines:∀ list_,Wlk X (zN3 list_) 33 [] [.one (.list false 1 (List.map rS list_))] (fun r'=>[.one (.sc (.string r'.1)),.one (.sc (.bool r'.2))]) (fun r'=>[]):=fun list_=>by
 refine ws f33 27 [.tmp 2,.tmp 3] (h2 t3 (h2 t5 (h2 t9 (h2 t22 (h2 t36 (h2 R_s R_u8)))))) ?_
 intro r'; unfold zN3
 refine go ?_
 refine sq ?_
 refine go ?_; intro x7
 refine go ?_
 refine sp ?_ ?_
 ·exact gz
 ·refine go ?_
  refine jn (fun e'=>∃ out_,zM2 out_=some r'∧e'=⟨27,1,2,[(4,.pl (.one (.ref 1 [])))],[(1,.list true 1 (List.map (rK .u8) out_))]⟩) ?_ ?_
  ·refine go ?_
   refine lp (fun s' e'=>∃ i out__1,s'=(i,out__1)∧e'=⟨27,1,2,[(0,.pl (.one (.v (.list false 1 (List.map rS list_))))),(4,.pl (.one (.ref 1 []))),(5,.pl (.one (.v (.sc (.int .i64 i)))))],[(1,.list true 1 (List.map (rK .u8) out__1))]⟩) [0,4,5] [(2,1)] 2 ⟨_,_,rfl,rfl⟩ ?_
   rintro s' _ ⟨i,out__1,rfl,rfl⟩ y1'
   change Tl _ (vE list_ i out__1) _ _; unfold vE
   refine sq ?_
   refine go ?_
   refine sp ?_ ?_
   ·refine go ?_
    refine sq ?_
    refine go ?_; intro x v'
    refine go ?_; intro l v'
    refine go ?_; intro l_1 v'
    refine go ?_
    exact bk [0,4,5] [(1,1)] 2 ⟨_,_,rfl,rfl⟩
   ·refine go ?_
    exact je [4] [(1,1)] 2 fun h=>⟨_,h,rfl⟩
  ·rintro e' ⟨out_,h,rfl⟩; refine tl h ?_; unfold zM2
   exact gz
instance W_spec_l08Sum:∀ w v,Wlk X (zS0 w v) 215 [] [.agg [.list false 1 (List.map (rL false 1 (rK .i64)) w.Parents),.list false 4 (List.map (zA false) w.Bodies)],.one (.sc (.int .i64 v))] (fun r'=>[.one (.sc (.int .u32 r'))]) (fun r'=>[]):=fun w v=>by
 refine ws f215 16 [.tmp 4] (h2 t27 (h2 jJ (h2 zM (h2 qI R_s)))) ?_
 intro r'; unfold zS0
 refine go ?_; intro x10
 refine go ?_; intro x11
 refine go ?_; intro x15
 exact gz
instance W_spec_ShortText:∀ s,Wlk X (zM7 s) 216 [] [.one (.sc (.string s))] (fun r'=>[.one (.sc (.string r'.1)),.one (.sc (.bool r'.2))]) (fun r'=>[]):=fun s=>by
 refine ws f216 12 [.tmp 2,.tmp 3] (h2 t3 t9) ?_
 intro r'; unfold zM7
 refine go ?_
 refine sq ?_
 refine go ?_
 refine sp ?_ ?_
 ·exact gz
 ·refine go ?_; intro x9
  refine go ?_; intro t v'
  exact gz
instance W_spec_Sealed:∀ text,Wlk X (uH text) 97 [] [.one (.sc (.string text))] (fun r'=>[.one (.sc (.string r'.1)),.one (.sc (.bool r'.2))]) (fun r'=>[]):=fun text=>by
 refine ws f97 12 [.tmp 2,.tmp 3] (h2 t3 t9) ?_
 intro r'; unfold uH
 refine go ?_
 refine sq ?_
 refine go ?_
 refine sp ?_ ?_
 ·exact gz
 ·refine go ?_; intro x9
  refine go ?_; intro x10
  refine go ?_; intro t v'
  exact gz
instance W_spec_WeaveText:∀ w,Wlk X (zP7 w) 124 [] [.agg [.list false 1 (List.map (rL false 1 (rK .i64)) w.Parents),.list false 4 (List.map (zA false) w.Bodies)]] (fun r'=>[.one (.sc (.string r'.1)),.one (.sc (.bool r'.2))]) (fun r'=>[]):=fun w=>by
 refine ws f124 126 [.tmp 2,.tmp 3] (h2 t3 (h2 t5 (h2 t9 (h2 t22 (h2 t24 (h2 t27 (h2 t30 (h2 t39 (h2 t114 (h2 jJ (h2 zM (h2 xJ (h2 qI R_u8))))))))))))) ?_
 intro r'; unfold zP7
 refine go ?_; intro x16
 refine go ?_
 refine sq ?_
 refine go ?_
 refine sp ?_ ?_
 ·exact gz
 ·refine go ?_; intro x24
  refine go ?_; intro t v'
  refine go ?_
  refine jn (fun e'=>∃ out_,zL6 x16 out_=some r'∧e'=⟨126,2,4,[(4,.pl (.one (.ref 2 []))),(6,.pl (.one (.ref 3 [])))],[(2,.list true 3 (List.map (zB true) x16.1)),(3,.list true 1 (List.map (rK .u8) out_))]⟩) ?_ ?_
  ·refine go ?_
   refine lp (fun s' e'=>∃ v out__3,s'=(v,out__3)∧e'=⟨126,2,5,[(1,.pl (.one (.ref 2 []))),(4,.pl (.one (.ref 3 []))),(6,.pl (.one (.ref 4 []))),(7,.pl (.one (.v (.sc (.int .i64 v)))))],[(2,.box true [.list false 1 (List.map (rL false 1 (rK .i64)) w.Parents),.list false 4 (List.map (zA false) w.Bodies)]),(3,.list true 3 (List.map (zB true) x16.1)),(4,.list true 1 (List.map (rK .u8) out__3))]⟩) [1,4,6,7] [(2,2),(3,3),(6,4)] 5 ⟨_,_,rfl,rfl⟩ ?_
   rintro s' _ ⟨v,out__3,rfl,rfl⟩ y1'
   change Tl _ (xR w v out__3) _ _; unfold xR
   refine sq ?_
   refine go ?_
   refine sp ?_ ?_
   ·refine go ?_
    refine jn (fun e'=>∃ out__4,zL9 v out__4=some y1'∧e'=⟨126,2,5,[(1,.pl (.one (.ref 2 []))),(4,.pl (.one (.ref 3 []))),(6,.pl (.one (.ref 4 []))),(7,.pl (.one (.v (.sc (.int .i64 v)))))],[(2,.box true [.list false 1 (List.map (rL false 1 (rK .i64)) w.Parents),.list false 4 (List.map (zA false) w.Bodies)]),(3,.list true 3 (List.map (zB true) x16.1)),(4,.list true 1 (List.map (rK .u8) out__4))]⟩) ?_ ?_
    ·refine go ?_; intro x_1 v'
     refine go ?_; intro x40
     refine go ?_
     refine jn (fun e'=>∃ s,zD9 w v out__3 s=some y1'∧e'=⟨126,2,5,[(1,.pl (.one (.ref 2 []))),(4,.pl (.one (.ref 3 []))),(6,.pl (.one (.ref 4 []))),(7,.pl (.one (.v (.sc (.int .i64 v))))),(8,.pl (.one (.v (.sc (.string s)))))],[(2,.box true [.list false 1 (List.map (rL false 1 (rK .i64)) w.Parents),.list false 4 (List.map (zA false) w.Bodies)]),(3,.list true 3 (List.map (zB true) x16.1)),(4,.list true 1 (List.map (rK .u8) out__3))]⟩) ?_ ?_
     ·refine go ?_
      refine lp (fun s' e'=>∃ s_1 k,s'=(s_1,k)∧e'=⟨126,2,5,[(1,.pl (.one (.ref 2 []))),(4,.pl (.one (.ref 3 []))),(6,.pl (.one (.ref 4 []))),(7,.pl (.one (.v (.sc (.int .i64 v))))),(8,.pl (.one (.v (.sc (.string s_1))))),(9,.pl (.one (.v (.sc (.int .i64 k)))))],[(2,.box true [.list false 1 (List.map (rL false 1 (rK .i64)) w.Parents),.list false 4 (List.map (zA false) w.Bodies)]),(3,.list true 3 (List.map (zB true) x16.1)),(4,.list true 1 (List.map (rK .u8) out__3))]⟩) [1,4,6,7,8,9] [(2,2),(3,3),(4,4)] 5 ⟨_,_,rfl,rfl⟩ ?_
      rintro s' _ ⟨s_1,k,rfl,rfl⟩ y2'
      change Tl _ (vA w v s_1 k) _ _; unfold vA
      refine sq ?_
      refine go ?_; intro x_2 v'
      refine go ?_
      refine sp ?_ ?_
      ·refine go ?_
       refine sq ?_
       refine go ?_; intro x_3 v'
       refine go ?_; intro x60
       refine go ?_; intro t_4 v'
       refine go ?_
       exact bk [1,4,6,7,8,9] [(2,2),(3,3),(4,4)] 5 ⟨_,_,rfl,rfl⟩
      ·refine go ?_
       exact je [1,4,6,7,8] [(2,2),(3,3),(4,4)] 5 fun h=>⟨_,h,rfl⟩
     ·rintro e' ⟨s,h,rfl⟩; refine tl h ?_; unfold zD9
      refine go ?_; intro x66
      refine go ?_; intro x67
      refine go ?_; intro t_3 v'
      refine go ?_; intro l_3 v'
      refine go ?_
      exact je [1,4,6,7] [(2,2),(3,3),(4,4)] 5 fun h=>⟨_,h,rfl⟩
    ·rintro e' ⟨out__4,h,rfl⟩; refine tl h ?_; unfold zL9
     refine go ?_
     exact bk [1,4,6,7] [(2,2),(3,3),(4,4)] 5 ⟨_,_,rfl,rfl⟩
   ·refine go ?_
    exact je [4,6] [(3,2),(4,3)] 4 fun h=>⟨_,h,rfl⟩
  ·rintro e' ⟨out_,h,rfl⟩; refine tl h ?_; unfold zL6
   refine go ?_; intro x74
   refine go ?_; intro l v'
   refine go ?_
   refine jn (fun e'=>∃ out__1,zD8 out__1=some r'∧e'=⟨126,2,3,[(6,.pl (.one (.ref 2 [])))],[(2,.list true 1 (List.map (rK .u8) out__1))]⟩) ?_ ?_
   ·refine go ?_
    refine lp (fun s' e'=>∃ i out__2,s'=(i,out__2)∧e'=⟨126,2,4,[(4,.pl (.one (.ref 2 []))),(6,.pl (.one (.ref 3 []))),(10,.pl (.one (.v (.sc (.int .i64 i)))))],[(2,.list true 3 (List.map (zB true) x16.1)),(3,.list true 1 (List.map (rK .u8) out__2))]⟩) [4,6,10] [(2,2),(3,3)] 4 ⟨_,_,rfl,rfl⟩ ?_
    rintro s' _ ⟨i,out__2,rfl,rfl⟩ y1'
    change Tl _ (vH x16 i out__2) _ _; unfold vH
    refine sq ?_
    refine go ?_
    refine sp ?_ ?_
    ·refine go ?_
     refine sq ?_
     refine go ?_; intro x v'
     refine fk (show zM8 [[V.sc (.int .u8 (wk .u8 x.Kind))]]=some [(wk .u8 x.Kind)] from qK [(wk .u8 x.Kind)]) ?_
     refine go ?_
     refine sq ?_
     refine go ?_
     refine sp ?_ ?_
     ·refine go ?_; intro x103
      refine go ?_; intro t_1 v'
      refine go ?_; intro l_1 v'
      refine go ?_
      exact bk [4,6,10] [(2,2),(3,3)] 4 ⟨_,_,rfl,rfl⟩
     ·refine go ?_; intro x115
      refine go ?_; intro t_2 v'
      refine go ?_; intro l_2 v'
      refine go ?_
      exact bk [4,6,10] [(2,2),(3,3)] 4 ⟨_,_,rfl,rfl⟩
    ·refine go ?_
     exact je [6] [(3,2)] 3 fun h=>⟨_,h,rfl⟩
   ·rintro e' ⟨out__1,h,rfl⟩; refine tl h ?_; unfold zD8
    refine go ?_; intro x123
    exact gz
end Go.TV.KFnExactReadWeave
