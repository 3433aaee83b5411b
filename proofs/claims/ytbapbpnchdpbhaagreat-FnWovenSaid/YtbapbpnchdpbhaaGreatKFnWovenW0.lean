/- Walks. -/
import Derived.Test.YtbapbpnchdpbhaaGreatKFnWovenE
set_option linter.unusedVariables false
set_option linter.unusedSimpArgs false
set_option maxHeartbeats 8000000
set_option maxRecDepth 100000
namespace Go.TV.KFnWoven
attribute [local irreducible] wpV opsV Does yZ yS RetL quV seqV Cy lpP cutP cutQ
open Go.Proofs.Tryz Go.TV.F
instance W_laws_big:∀ code,Wlk X (zZ6 code) 13 [] [.one (.list false 1 (List.map (rK .u8) code))] (fun r'=>[.one (.sc (.bool r'))]) (fun r'=>[]):=fun code=>by
 refine ws f13 6 [.tmp 2] (h2 t3 (h2 t22 R_u8)) ?_
 intro r'; unfold zZ6
 exact gz
instance W_spec_l01New:∀ code,Wlk X (zR7 code) 65 [] [.one (.list false 1 (List.map (rK .u8) code))] (fun r'=>[.one (.box true [.list false 1 (List.map (rK .u8) r'.b),.sc (.int .i64 r'.i),.sc (.int .i64 r'.h)])]) (fun r'=>[]):=fun code=>by
 refine ws f65 32 [.tmp 2] (h2 t3 (h2 t5 (h2 t22 (h2 t226 R_u8)))) ?_
 intro r'; unfold zR7
 refine go ?_
 refine jn (fun e'=>∃ h,qF4 code h=some r'∧e'=⟨32,1,1,[(0,.pl (.one (.v (.list false 1 (List.map (rK .u8) code))))),(3,.pl (.one (.v (.sc (.int .i64 h)))))],[]⟩) ?_ ?_
 ·refine go ?_
  refine lp (fun s' e'=>∃ h_1 i,s'=(h_1,i)∧e'=⟨32,1,1,[(0,.pl (.one (.v (.list false 1 (List.map (rK .u8) code))))),(3,.pl (.one (.v (.sc (.int .i64 h_1))))),(4,.pl (.one (.v (.sc (.int .i64 i)))))],[]⟩) [0,3,4] [] 1 ⟨_,_,rfl,rfl⟩ ?_
  rintro s' _ ⟨h_1,i,rfl,rfl⟩ y1'
  change Tl _ (zC3 code h_1 i) _ _; unfold zC3
  refine sq ?_
  refine go ?_
  refine gc 3 (fun b e'=>e'=⟨32,1,1,[(0,.pl (.one (.v (.list false 1 (List.map (rK .u8) code))))),(3,.pl (.one (.v (.sc (.int .i64 h_1))))),(4,.pl (.one (.v (.sc (.int .i64 i))))),(15,.pl (.one (.v (.sc (.bool b)))))],[]⟩) ?_ ?_
  ·intro p
   refine kT ?_ ?_
   ·refine go ?_
    exact ge [0,3,4,15] [] 1 rfl
   ·refine go ?_
    exact ge [0,3,4,15] [] 1 rfl
  ·rintro b _ rfl
   refine go ?_
   refine sp ?_ ?_
   ·refine go ?_
    refine sq ?_
    refine go ?_; intro x v'
    refine go ?_
    exact bk [0,3,4] [] 1 ⟨_,_,rfl,rfl⟩
   ·refine go ?_
    exact je [0,3] [] 1 fun h=>⟨_,h,rfl⟩
 ·rintro e' ⟨h,h,rfl⟩; refine tl h ?_; unfold qF4
  exact gz
instance W_spec_l06Size:∀ code,Wlk X (zU9 code) 68 [] [.one (.list false 1 (List.map (rK .u8) code))] (fun r'=>[.one (.sc (.int .i64 r'))]) (fun r'=>[]):=fun code=>by
 refine ws f68 11 [.tmp 2] (h2 t3 (h2 t22 R_u8)) ?_
 intro r'; unfold zU9
 refine go ?_
 refine sq ?_
 refine go ?_
 refine sp ?_ ?_
 ·exact gz
 ·exact gz
instance W_spec_l01Byte:∀ c,Wlk X (yW c) 105 [0] [.one (.box true [.list false 1 (List.map (rK .u8) c.b),.sc (.int .i64 c.i),.sc (.int .i64 c.h)])] (fun r'=>[.one (.sc (.int .i64 r'.1))]) (fun r'=>[(0,.box true [.list false 1 (List.map (rK .u8) r'.2.b),.sc (.int .i64 r'.2.i),.sc (.int .i64 r'.2.h)])]):=fun c=>by
 refine ws f105 58 [.tmp 2] (h2 t3 (h2 t5 (h2 t22 (h2 t226 R_u8)))) ?_
 intro r'; unfold yW
 refine go ?_
 refine rq ?_
 refine go ?_
 refine sq ?_
 refine go ?_
 refine rq ?_
 refine go ?_
 refine sp ?_ ?_
 ·refine go ?_
  refine rq ?_
  refine go ?_; intro x v'
  exact gz
 ·exact gz
instance W_spec_l01Below:∀ c n,Wlk X (jL c n) 67 [0] [.one (.box true [.list false 1 (List.map (rK .u8) c.b),.sc (.int .i64 c.i),.sc (.int .i64 c.h)]),.one (.sc (.int .i64 n))] (fun r'=>[.one (.sc (.int .i64 r'.1))]) (fun r'=>[(0,.box true [.list false 1 (List.map (rK .u8) r'.2.b),.sc (.int .i64 r'.2.i),.sc (.int .i64 r'.2.h)])]):=fun c n=>by
 refine ws f67 37 [.tmp 4] (h2 t3 R_u8) ?_
 intro r'; unfold jL
 refine go ?_
 refine sq ?_
 refine go ?_
 refine sp ?_ ?_
 ·exact gz
 ·refine go ?_
  refine sq ?_
  refine go ?_
  refine sp ?_ ?_
  ·refine go ?_; intro x14
   refine go ?_; intro u v'
   exact gz
  ·refine go ?_; intro x18
   refine go ?_; intro x20
   refine go ?_; intro x22
   refine go ?_; intro x24
   refine go ?_; intro u_1 v'
   exact gz
instance W_spec_l01Once:∀ c n,Wlk X (wQ c n) 133 [0] [.one (.box true [.list false 1 (List.map (rK .u8) c.b),.sc (.int .i64 c.i),.sc (.int .i64 c.h)]),.one (.sc (.int .i64 n))] (fun r'=>[.one (.sc (.bool r'.1))]) (fun r'=>[(0,.box true [.list false 1 (List.map (rK .u8) r'.2.b),.sc (.int .i64 r'.2.i),.sc (.int .i64 r'.2.h)])]):=fun c n=>by
 refine ws f133 9 [.tmp 4] (h2 t3 R_u8) ?_
 intro r'; unfold wQ
 refine go ?_; intro x7
 exact gz
instance W_spec_l05Parents:∀ c n,Wlk X (zK1 c n) 155 [0] [.one (.box true [.list false 1 (List.map (rK .u8) c.b),.sc (.int .i64 c.i),.sc (.int .i64 c.h)]),.one (.sc (.int .i64 n))] (fun r'=>[.one (.list true 1 (List.map (rK .i64) r'.1))]) (fun r'=>[(0,.box true [.list false 1 (List.map (rK .u8) r'.2.b),.sc (.int .i64 r'.2.i),.sc (.int .i64 r'.2.h)])]):=fun c n=>by
 refine ws f155 38 [.tmp 4] (h2 t3 (h2 t39 (h2 qM R_u8))) ?_
 intro r'; unfold zK1
 refine go ?_
 refine l1 ?_
 refine go ?_
 refine jn (fun e'=>∃ c_1 c_2 c_3 out_,zU1 c_1 c_2 c_3 out_=some r'∧e'=⟨38,2,3,[(5,.pl (.one (.ref 2 [])))],[(0,.box true [.list false 1 (List.map (rK .u8) c_1),.sc (.int .i64 c_2),.sc (.int .i64 c_3)]),(2,.list true 1 (List.map (rK .i64) out_))]⟩) ?_ ?_
 ·refine go ?_
  refine lp (fun s' e'=>∃ v c_4 c_5 c_6 out__1,s'=(v,c_4,c_5,c_6,out__1)∧e'=⟨38,2,3,[(0,.pl (.one (.ref 0 []))),(1,.pl (.one (.v (.sc (.int .i64 n))))),(5,.pl (.one (.ref 2 []))),(6,.pl (.one (.v (.sc (.int .i64 v)))))],[(0,.box true [.list false 1 (List.map (rK .u8) c_4),.sc (.int .i64 c_5),.sc (.int .i64 c_6)]),(2,.list true 1 (List.map (rK .i64) out__1))]⟩) [0,1,5,6] [(0,0),(3,2)] 3 ⟨_,_,_,_,_,rfl,rfl⟩ ?_
  rintro s' _ ⟨v,c_4,c_5,c_6,out__1,rfl,rfl⟩ y1'
  change Tl _ (yC n v c_4 c_5 c_6 out__1) _ _; unfold yC
  refine sq ?_
  refine go ?_
  refine sp ?_ ?_
  ·refine go ?_
   refine sq ?_
   refine go ?_
   refine gc 16 (fun b e'=>e'=⟨38,2,3,[(0,.pl (.one (.ref 0 []))),(1,.pl (.one (.v (.sc (.int .i64 n))))),(5,.pl (.one (.ref 2 []))),(6,.pl (.one (.v (.sc (.int .i64 v))))),(32,.pl (.one (.v (.sc (.bool b.1)))))],[(0,.box true [.list false 1 (List.map (rK .u8) b.2.1),.sc (.int .i64 b.2.2.1),.sc (.int .i64 b.2.2.2)]),(2,.list true 1 (List.map (rK .i64) out__1))]⟩) ?_ ?_
   ·intro p
    refine kT ?_ ?_
    ·refine go ?_
     refine gc 4 (fun b_1 e'=>e'=⟨38,2,3,[(0,.pl (.one (.ref 0 []))),(1,.pl (.one (.v (.sc (.int .i64 n))))),(5,.pl (.one (.ref 2 []))),(6,.pl (.one (.v (.sc (.int .i64 v))))),(16,.pl (.one (.v (.sc (.bool true))))),(17,.pl (.one (.v (.sc (.int .i64 v))))),(18,.pl (.one (.v (.sc (.int .i64 n))))),(19,.pl (.one (.v (.sc (.int .i64 (wk .i64 (n - 1))))))),(20,.pl (.one (.v (.sc (.bool (v == (wk .i64 (n - 1)))))))),(25,.pl (.one (.v (.sc (.bool b_1.1)))))],[(0,.box true [.list false 1 (List.map (rK .u8) b_1.2.1),.sc (.int .i64 b_1.2.2.1),.sc (.int .i64 b_1.2.2.2)]),(2,.list true 1 (List.map (rK .i64) out__1))]⟩) ?_ ?_
     ·intro p
      refine kT ?_ ?_
      ·refine go ?_; intro x23
       refine go ?_
       exact ge [0,1,5,6,16,17,18,19,20,25] [(0,0),(2,2)] 3 rfl
      ·refine go ?_
       exact ge [0,1,5,6,16,17,18,19,20,25] [(0,0),(2,2)] 3 rfl
     ·rintro b_1 _ rfl
      refine go ?_
      refine gc 5 (fun b_2 e'=>e'=⟨38,2,3,[(0,.pl (.one (.ref 0 []))),(1,.pl (.one (.v (.sc (.int .i64 n))))),(5,.pl (.one (.ref 2 []))),(6,.pl (.one (.v (.sc (.int .i64 v))))),(16,.pl (.one (.v (.sc (.bool true))))),(17,.pl (.one (.v (.sc (.int .i64 v))))),(18,.pl (.one (.v (.sc (.int .i64 n))))),(19,.pl (.one (.v (.sc (.int .i64 (wk .i64 (n - 1))))))),(20,.pl (.one (.v (.sc (.bool (v == (wk .i64 (n - 1)))))))),(25,.pl (.one (.v (.sc (.bool b_1.1))))),(31,.pl (.one (.v (.sc (.bool b_2.1)))))],[(0,.box true [.list false 1 (List.map (rK .u8) b_2.2.1),.sc (.int .i64 b_2.2.2.1),.sc (.int .i64 b_2.2.2.2)]),(2,.list true 1 (List.map (rK .i64) out__1))]⟩) ?_ ?_
      ·intro p
       refine xG ?_ ?_
       ·refine go ?_
        exact ge [0,1,5,6,16,17,18,19,20,25,31] [(0,0),(2,2)] 3 rfl
       ·refine go ?_; intro x30
        refine go ?_
        exact ge [0,1,5,6,16,17,18,19,20,25,31] [(0,0),(2,2)] 3 rfl
      ·rintro b_2 _ rfl
       refine go ?_
       exact ge [0,1,5,6,32] [(0,0),(2,2)] 3 rfl
    ·refine go ?_
     exact ge [0,1,5,6,32] [(0,0),(2,2)] 3 rfl
   ·rintro b _ rfl
    refine go ?_
    refine sp ?_ ?_
    ·refine go ?_; intro l v'
     refine go ?_
     exact bk [0,1,5,6] [(0,0),(2,2)] 3 ⟨_,_,_,_,_,rfl,rfl⟩
    ·refine go ?_
     exact bk [0,1,5,6] [(0,0),(2,2)] 3 ⟨_,_,_,_,_,rfl,rfl⟩
  ·refine go ?_
   exact je [5] [(0,0),(2,2)] 3 fun h=>⟨_,_,_,_,h,rfl⟩
 ·rintro e' ⟨c_1,c_2,c_3,out_,h,rfl⟩; refine tl h ?_; unfold zU1
  exact gz
instance W_spec_l01In:∀ x least most,Wlk X (zD2 x least most) 94 [] [.one (.sc (.int .i64 x)),.one (.sc (.int .i64 least)),.one (.sc (.int .i64 most))] (fun r'=>[.one (.sc (.bool r'))]) (fun r'=>[]):=fun x least most=>by
 refine ws f94 15 [.tmp 6] t3 ?_
 intro r'; unfold zD2
 refine go ?_
 refine gc 4 (fun b e'=>e'=⟨15,3,3,[(14,.pl (.one (.v (.sc (.bool b)))))],[]⟩) ?_ ?_
 ·intro p
  refine kT ?_ ?_
  ·refine go ?_
   exact ge [14] [] 3 rfl
  ·refine go ?_
   exact ge [14] [] 3 rfl
 ·rintro b _ rfl
  exact gz
instance W_spec_l05Set:∀ parents list_,Wlk X (zD1 parents list_) 141 [] [.one (.list false 1 (List.map (rL false 1 (rK .i64)) parents)),.one (.list false 1 (List.map (rK .i64) list_))] (fun r'=>[.one (.list true 1 (List.map rB r'))]) (fun r'=>[]):=fun parents list_=>by
 refine ws f141 64 [.tmp 4] (h2 t3 (h2 t4 (h2 t24 (h2 t39 (h2 t188 (h2 jF (h2 R_b qM))))))) ?_
 intro r'; unfold zD1
 refine go ?_
 refine l1 ?_
 refine go ?_; intro x11 v'
 refine go ?_
 refine jn (fun e'=>∃ in_,zW9 parents in_=some r'∧e'=⟨64,2,3,[(0,.pl (.one (.v (.list false 1 (List.map (rL false 1 (rK .i64)) parents))))),(5,.pl (.one (.ref 2 [])))],[(2,.list true 1 (List.map rB in_))]⟩) ?_ ?_
 ·refine go ?_
  refine lp (fun s' e'=>∃ i in__5,s'=(i,in__5)∧e'=⟨64,2,3,[(0,.pl (.one (.v (.list false 1 (List.map (rL false 1 (rK .i64)) parents))))),(1,.pl (.one (.v (.list false 1 (List.map (rK .i64) list_))))),(5,.pl (.one (.ref 2 []))),(6,.pl (.one (.v (.sc (.int .i64 i)))))],[(2,.list true 1 (List.map rB in__5))]⟩) [0,1,5,6] [(3,2)] 3 ⟨_,_,rfl,rfl⟩ ?_
  rintro s' _ ⟨i,in__5,rfl,rfl⟩ y1'
  change Tl _ (uI parents list_ i in__5) _ _; unfold uI
  refine sq ?_
  refine go ?_
  refine sp ?_ ?_
  ·refine go ?_
   refine sq ?_
   refine go ?_; intro x_5 v'
   refine go ?_; intro x25
   refine go ?_
   refine sp ?_ ?_
   ·refine go ?_; intro x_6 v'
    refine go ?_
    exact bk [0,1,5,6] [(2,2)] 3 ⟨_,_,rfl,rfl⟩
   ·refine go ?_
    exact bk [0,1,5,6] [(2,2)] 3 ⟨_,_,rfl,rfl⟩
  ·refine go ?_
   exact je [0,5] [(2,2)] 3 fun h=>⟨_,h,rfl⟩
 ·rintro e' ⟨in_,h,rfl⟩; refine tl h ?_; unfold zW9
  refine jn (fun e'=>∃ in__1,zW5 in__1=some r'∧e'=⟨64,2,3,[(5,.pl (.one (.ref 2 [])))],[(2,.list true 1 (List.map rB in__1))]⟩) ?_ ?_
  ·refine go ?_
   refine lp (fun s' e'=>∃ v in__2,s'=(v,in__2)∧e'=⟨64,2,3,[(0,.pl (.one (.v (.list false 1 (List.map (rL false 1 (rK .i64)) parents))))),(5,.pl (.one (.ref 2 []))),(7,.pl (.one (.v (.sc (.int .i64 v)))))],[(2,.list true 1 (List.map rB in__2))]⟩) [0,5,7] [(2,2)] 3 ⟨_,_,rfl,rfl⟩ ?_
   rintro s' _ ⟨v,in__2,rfl,rfl⟩ y1'
   change Tl _ (uK parents v in__2) _ _; unfold uK
   refine sq ?_
   refine go ?_
   refine sp ?_ ?_
   ·refine go ?_
    refine jn (fun e'=>∃ in__3,zW3 v in__3=some y1'∧e'=⟨64,2,3,[(0,.pl (.one (.v (.list false 1 (List.map (rL false 1 (rK .i64)) parents))))),(5,.pl (.one (.ref 2 []))),(7,.pl (.one (.v (.sc (.int .i64 v)))))],[(2,.list true 1 (List.map rB in__3))]⟩) ?_ ?_
    ·refine go ?_
     refine lp (fun s' e'=>∃ k in__4,s'=(k,in__4)∧e'=⟨64,2,3,[(0,.pl (.one (.v (.list false 1 (List.map (rL false 1 (rK .i64)) parents))))),(5,.pl (.one (.ref 2 []))),(7,.pl (.one (.v (.sc (.int .i64 v))))),(8,.pl (.one (.v (.sc (.int .i64 k)))))],[(2,.list true 1 (List.map rB in__4))]⟩) [0,5,7,8] [(2,2)] 3 ⟨_,_,rfl,rfl⟩ ?_
     rintro s' _ ⟨k,in__4,rfl,rfl⟩ y2'
     change Tl _ (uH parents v k in__4) _ _; unfold uH
     refine sq ?_
     refine go ?_; intro x v'
     refine go ?_
     refine gc 5 (fun b e'=>e'=⟨64,2,3,[(0,.pl (.one (.v (.list false 1 (List.map (rL false 1 (rK .i64)) parents))))),(5,.pl (.one (.ref 2 []))),(7,.pl (.one (.v (.sc (.int .i64 v))))),(8,.pl (.one (.v (.sc (.int .i64 k))))),(51,.pl (.one (.v (.sc (.bool b)))))],[(2,.list true 1 (List.map rB in__4))]⟩) ?_ ?_
     ·intro p
      refine kT ?_ ?_
      ·refine go ?_; intro x_1 v'
       refine go ?_
       exact ge [0,5,7,8,51] [(2,2)] 3 rfl
      ·refine go ?_
       exact ge [0,5,7,8,51] [(2,2)] 3 rfl
     ·rintro b _ rfl
      refine go ?_
      refine sp ?_ ?_
      ·refine go ?_
       refine sq ?_
       refine go ?_; intro x_2 v'
       refine go ?_; intro x_3 v'
       refine go ?_; intro x_4 v'
       refine go ?_
       exact bk [0,5,7,8] [(2,2)] 3 ⟨_,_,rfl,rfl⟩
      ·refine go ?_
       exact je [0,5,7] [(2,2)] 3 fun h=>⟨_,h,rfl⟩
    ·rintro e' ⟨in__3,h,rfl⟩; refine tl h ?_; unfold zW3
     refine go ?_
     exact bk [0,5,7] [(2,2)] 3 ⟨_,_,rfl,rfl⟩
   ·refine go ?_
    exact je [5] [(2,2)] 3 fun h=>⟨_,h,rfl⟩
  ·rintro e' ⟨in__1,h,rfl⟩; refine tl h ?_; unfold zW5
   exact gz
instance W_spec_l06Live:∀ b in_,Wlk X (yT b in_) 206 [] [.agg [.sc (.string b.Line),.sc (.int .i64 b.Ins),.sc (.int .i64 b.Ord),.list false 1 (List.map (rK .i64) b.Dels)],.one (.list false 1 (List.map rB in_))] (fun r'=>[.one (.sc (.bool r'))]) (fun r'=>[]):=fun b in_=>by
 refine ws f206 47 [.tmp 4] (h2 t3 (h2 t4 (h2 t39 (h2 t46 (h2 t188 (h2 R_b qM)))))) ?_
 intro r'; unfold yT
 refine go ?_
 refine sq ?_
 refine go ?_; intro x11
 refine go ?_
 refine gc 7 (fun b_1 e'=>e'=⟨47,5,6,[(1,.pl (.one (.v (.list false 1 (List.map rB in_))))),(2,.pl (.one (.ref 5 []))),(20,.pl (.one (.v (.sc (.bool b_1)))))],[(5,.box true [.sc (.string b.Line),.sc (.int .i64 b.Ins),.sc (.int .i64 b.Ord),.list false 1 (List.map (rK .i64) b.Dels)])]⟩) ?_ ?_
 ·intro p
  refine xG ?_ ?_
  ·refine go ?_
   exact ge [1,2,20] [(5,5)] 6 rfl
  ·refine go ?_; intro x v'
   refine go ?_
   exact ge [1,2,20] [(5,5)] 6 rfl
 ·rintro b_1 _ rfl
  refine go ?_
  refine sp ?_ ?_
  ·exact gz
  ·refine go ?_
   refine jn (fun e'=>qB8=some r'∧e'=⟨47,5,5,[],[]⟩) ?_ ?_
   ·refine go ?_
    refine lp (fun i e'=>e'=⟨47,5,6,[(1,.pl (.one (.v (.list false 1 (List.map rB in_))))),(2,.pl (.one (.ref 5 []))),(5,.pl (.one (.v (.sc (.int .i64 i)))))],[(5,.box true [.sc (.string b.Line),.sc (.int .i64 b.Ins),.sc (.int .i64 b.Ord),.list false 1 (List.map (rK .i64) b.Dels)])]⟩) [1,2,5] [(5,5)] 6 rfl ?_
    rintro i _ rfl y1'
    change Tl _ (zE5 b in_ i) _ _; unfold zE5
    refine sq ?_
    refine go ?_
    refine sp ?_ ?_
    ·refine go ?_
     refine sq ?_
     refine go ?_; intro x_1 v'
     refine go ?_; intro x36
     refine go ?_
     refine gc 9 (fun b_2 e'=>e'=⟨47,5,6,[(1,.pl (.one (.v (.list false 1 (List.map rB in_))))),(2,.pl (.one (.ref 5 []))),(5,.pl (.one (.v (.sc (.int .i64 i))))),(46,.pl (.one (.v (.sc (.bool b_2)))))],[(5,.box true [.sc (.string b.Line),.sc (.int .i64 b.Ins),.sc (.int .i64 b.Ord),.list false 1 (List.map (rK .i64) b.Dels)])]⟩) ?_ ?_
     ·intro p
      refine kT ?_ ?_
      ·refine go ?_; intro x_2 v'
       refine go ?_
       exact ge [1,2,5,46] [(5,5)] 6 rfl
      ·refine go ?_
       exact ge [1,2,5,46] [(5,5)] 6 rfl
     ·rintro b_2 _ rfl
      refine go ?_
      refine sp ?_ ?_
      ·exact gz
      ·refine go ?_
       exact bk [1,2,5] [(5,5)] 6 rfl
    ·refine go ?_
     exact je [] [] 5 fun h=>⟨h,rfl⟩
   ·rintro e' ⟨h,rfl⟩; refine tl h ?_; unfold qB8
    exact gz
instance W_spec_l06Places:∀ w in_,Wlk X (xZ w in_) 207 [] [.agg [.list false 1 (List.map (rL false 1 (rK .i64)) w.Parents),.list false 4 (List.map (zA false) w.Bodies)],.one (.list false 1 (List.map rB in_))] (fun r'=>[.one (.list true 1 (List.map (rK .i64) r'))]) (fun r'=>[]):=fun w in_=>by
 refine ws f207 27 [.tmp 4] (h2 t3 (h2 t25 (h2 t27 (h2 t39 (h2 t46 (h2 jF (h2 zL (h2 R_b qM)))))))) ?_
 intro r'; unfold xZ
 refine go ?_
 refine l1 ?_
 refine go ?_
 refine jn (fun e'=>∃ out_,zX5 out_=some r'∧e'=⟨27,3,4,[(5,.pl (.one (.ref 3 [])))],[(3,.list true 1 (List.map (rK .i64) out_))]⟩) ?_ ?_
 ·refine go ?_
  refine lp (fun s' e'=>∃ i out__1,s'=(i,out__1)∧e'=⟨27,3,5,[(1,.pl (.one (.v (.list false 1 (List.map rB in_))))),(2,.pl (.one (.ref 3 []))),(5,.pl (.one (.ref 4 []))),(6,.pl (.one (.v (.sc (.int .i64 i)))))],[(3,.box true [.list false 1 (List.map (rL false 1 (rK .i64)) w.Parents),.list false 4 (List.map (zA false) w.Bodies)]),(4,.list true 1 (List.map (rK .i64) out__1))]⟩) [1,2,5,6] [(3,3),(5,4)] 5 ⟨_,_,rfl,rfl⟩ ?_
  rintro s' _ ⟨i,out__1,rfl,rfl⟩ y1'
  change Tl _ (wC w in_ i out__1) _ _; unfold wC
  refine sq ?_
  refine go ?_
  refine sp ?_ ?_
  ·refine go ?_
   refine sq ?_
   refine go ?_; intro x v'
   refine go ?_; intro x21
   refine go ?_
   refine sp ?_ ?_
   ·refine go ?_; intro l v'
    refine go ?_
    exact bk [1,2,5,6] [(3,3),(4,4)] 5 ⟨_,_,rfl,rfl⟩
   ·refine go ?_
    exact bk [1,2,5,6] [(3,3),(4,4)] 5 ⟨_,_,rfl,rfl⟩
  ·refine go ?_
   exact je [5] [(4,3)] 4 fun h=>⟨_,h,rfl⟩
 ·rintro e' ⟨out_,h,rfl⟩; refine tl h ?_; unfold zX5
  exact gz
instance W_spec_l06Seen:∀ w parents,Wlk X (uU w parents) 178 [] [.agg [.list false 1 (List.map (rL false 1 (rK .i64)) w.Parents),.list false 4 (List.map (zA false) w.Bodies)],.one (.list false 1 (List.map (rK .i64) parents))] (fun r'=>[.one (.list true 1 (List.map (rK .i64) r'))]) (fun r'=>[]):=fun w parents=>by
 refine ws f178 11 [.tmp 4] (h2 t24 (h2 t27 (h2 jF (h2 zL (h2 R_b qM))))) ?_
 intro r'; unfold uU
 refine go ?_
 refine l1 ?_
 refine go ?_
 refine rc [1,3,0,2,4,5,6] ?_
 refine go ?_; intro x9
 refine go ?_; intro x10
 exact gz
instance W_spec_l06Lines:∀ w places,Wlk X (vR w places) 177 [] [.agg [.list false 1 (List.map (rL false 1 (rK .i64)) w.Parents),.list false 4 (List.map (zA false) w.Bodies)],.one (.list false 1 (List.map (rK .i64) places))] (fun r'=>[.one (.list true 1 (List.map rS r'))]) (fun r'=>[]):=fun w places=>by
 refine ws f177 27 [.tmp 4] (h2 t3 (h2 t9 (h2 t25 (h2 t27 (h2 t36 (h2 t39 (h2 t46 (h2 jF (h2 zL (h2 qM R_s)))))))))) ?_
 intro r'; unfold vR
 refine go ?_
 refine l1 ?_
 refine go ?_
 refine jn (fun e'=>∃ out_,qA4 out_=some r'∧e'=⟨27,3,4,[(5,.pl (.one (.ref 3 [])))],[(3,.list true 1 (List.map rS out_))]⟩) ?_ ?_
 ·refine go ?_
  refine lp (fun s' e'=>∃ i out__1,s'=(i,out__1)∧e'=⟨27,3,5,[(1,.pl (.one (.v (.list false 1 (List.map (rK .i64) places))))),(2,.pl (.one (.ref 3 []))),(5,.pl (.one (.ref 4 []))),(6,.pl (.one (.v (.sc (.int .i64 i)))))],[(3,.box true [.list false 1 (List.map (rL false 1 (rK .i64)) w.Parents),.list false 4 (List.map (zA false) w.Bodies)]),(4,.list true 1 (List.map rS out__1))]⟩) [1,2,5,6] [(3,3),(5,4)] 5 ⟨_,_,rfl,rfl⟩ ?_
  rintro s' _ ⟨i,out__1,rfl,rfl⟩ y1'
  change Tl _ (yB w places i out__1) _ _; unfold yB
  refine sq ?_
  refine go ?_
  refine sp ?_ ?_
  ·refine go ?_
   refine sq ?_
   refine go ?_
   refine rc [0,1,2,3,4,5,6,7,8,9,10,11,12] ?_
   refine go ?_; intro x v'
   refine go ?_; intro x_1 v'
   refine go ?_; intro l v'
   refine go ?_
   exact bk [1,2,5,6] [(3,3),(4,4)] 5 ⟨_,_,rfl,rfl⟩
  ·refine go ?_
   exact je [5] [(4,3)] 4 fun h=>⟨_,h,rfl⟩
 ·rintro e' ⟨out_,h,rfl⟩; refine tl h ?_; unfold qA4
  exact gz
instance W_spec_l01Pick:∀ c list_,Wlk X (zN1 c list_) 222 [0] [.one (.box true [.list false 1 (List.map (rK .u8) c.b),.sc (.int .i64 c.i),.sc (.int .i64 c.h)]),.one (.list false 1 (List.map rS list_))] (fun r'=>[.one (.sc (.string r'.1))]) (fun r'=>[(0,.box true [.list false 1 (List.map (rK .u8) r'.2.b),.sc (.int .i64 r'.2.i),.sc (.int .i64 r'.2.h)])]):=fun c list_=>by
 refine ws f222 12 [.tmp 4] (h2 t9 (h2 t36 (h2 R_s R_u8))) ?_
 intro r'; unfold zN1
 refine go ?_; intro x9
 refine go ?_; intro x v'
 exact gz
instance W_spec_l03Line:∀ c,Wlk X (zD7 c) 257 [0] [.one (.box true [.list false 1 (List.map (rK .u8) c.b),.sc (.int .i64 c.i),.sc (.int .i64 c.h)])] (fun r'=>[.one (.sc (.string r'.1))]) (fun r'=>[(0,.box true [.list false 1 (List.map (rK .u8) r'.2.b),.sc (.int .i64 r'.2.i),.sc (.int .i64 r'.2.h)])]):=fun c=>by
 refine ws f257 6 [.tmp 2] (h2 t9 (h2 t36 (h2 R_s R_u8))) ?_
 intro r'; unfold zD7
 refine go ?_
 refine oF 1 ?_
 refine go ?_; intro x5
 exact gz
instance W_spec_l04Near:∀ c a,Wlk X (zU3 c a) 176 [0] [.one (.box true [.list false 1 (List.map (rK .u8) c.b),.sc (.int .i64 c.i),.sc (.int .i64 c.h)]),.one (.list false 1 (List.map rS a))] (fun r'=>[.one (.list true 1 (List.map rS r'.1))]) (fun r'=>[(0,.box true [.list false 1 (List.map (rK .u8) r'.2.b),.sc (.int .i64 r'.2.i),.sc (.int .i64 r'.2.h)])]):=fun c a=>by
 refine ws f176 51 [.tmp 4] (h2 t3 (h2 t9 (h2 t36 (h2 R_s R_u8)))) ?_
 intro r'; unfold zU3
 refine go ?_
 refine l1 ?_
 refine go ?_
 refine jn (fun e'=>∃ c_1 c_2 c_3 out_,zS6 c_1 c_2 c_3 out_=some r'∧e'=⟨51,2,3,[(0,.pl (.one (.ref 0 []))),(5,.pl (.one (.ref 2 [])))],[(0,.box true [.list false 1 (List.map (rK .u8) c_1),.sc (.int .i64 c_2),.sc (.int .i64 c_3)]),(2,.list true 1 (List.map rS out_))]⟩) ?_ ?_
 ·refine go ?_
  refine lp (fun s' e'=>∃ i c_4 c_5 c_6 out__1,s'=(i,c_4,c_5,c_6,out__1)∧e'=⟨51,2,3,[(0,.pl (.one (.ref 0 []))),(1,.pl (.one (.v (.list false 1 (List.map rS a))))),(5,.pl (.one (.ref 2 []))),(6,.pl (.one (.v (.sc (.int .i64 i)))))],[(0,.box true [.list false 1 (List.map (rK .u8) c_4),.sc (.int .i64 c_5),.sc (.int .i64 c_6)]),(2,.list true 1 (List.map rS out__1))]⟩) [0,1,5,6] [(0,0),(3,2)] 3 ⟨_,_,_,_,_,rfl,rfl⟩ ?_
  rintro s' _ ⟨i,c_4,c_5,c_6,out__1,rfl,rfl⟩ y1'
  change Tl _ (zK5 a i c_4 c_5 c_6 out__1) _ _; unfold zK5
  refine sq ?_
  refine go ?_
  refine sp ?_ ?_
  ·refine go ?_
   refine sq ?_
   refine go ?_; intro x15
   refine go ?_
   refine sp ?_ ?_
   ·refine go ?_; intro x27
    refine go ?_; intro l_1 v'
    refine go ?_
    exact bk [0,1,5,6] [(0,0),(2,2)] 3 ⟨_,_,_,_,_,rfl,rfl⟩
   ·refine go ?_
    refine sp ?_ ?_
    ·refine rc [0,1,3,4,5,2,6,7,8,9] ?_
     refine go ?_; intro x v'
     refine go ?_; intro x34
     refine go ?_; intro l_2 v'
     refine go ?_
     exact bk [0,1,5,6] [(0,0),(2,2)] 3 ⟨_,_,_,_,_,rfl,rfl⟩
    ·refine go ?_
     refine sp ?_ ?_
     ·refine go ?_
      exact bk [0,1,5,6] [(0,0),(2,2)] 3 ⟨_,_,_,_,_,rfl,rfl⟩
     ·refine go ?_; intro x_1 v'
      refine go ?_; intro l_3 v'
      refine go ?_
      exact bk [0,1,5,6] [(0,0),(2,2)] 3 ⟨_,_,_,_,_,rfl,rfl⟩
  ·refine go ?_
   exact je [0,5] [(0,0),(2,2)] 3 fun h=>⟨_,_,_,_,h,rfl⟩
 ·rintro e' ⟨c_1,c_2,c_3,out_,h,rfl⟩; refine tl h ?_; unfold zS6
  refine sq ?_
  refine go ?_; intro x44
  refine go ?_
  refine sp ?_ ?_
  ·refine go ?_; intro x47
   refine go ?_; intro l v'
   exact gz
  ·exact gz
instance W_spec_l03Lines:∀ c n,Wlk X (zR0 c n) 179 [0] [.one (.box true [.list false 1 (List.map (rK .u8) c.b),.sc (.int .i64 c.i),.sc (.int .i64 c.h)]),.one (.sc (.int .i64 n))] (fun r'=>[.one (.list true 1 (List.map rS r'.1))]) (fun r'=>[(0,.box true [.list false 1 (List.map (rK .u8) r'.2.b),.sc (.int .i64 r'.2.i),.sc (.int .i64 r'.2.h)])]):=fun c n=>by
 refine ws f179 22 [.tmp 4] (h2 t3 (h2 t9 (h2 t36 (h2 R_s R_u8)))) ?_
 intro r'; unfold zR0
 refine go ?_
 refine l1 ?_
 refine go ?_
 refine jn (fun e'=>∃ c_1 c_2 c_3 out_,zZ0 c_1 c_2 c_3 out_=some r'∧e'=⟨22,2,3,[(5,.pl (.one (.ref 2 [])))],[(0,.box true [.list false 1 (List.map (rK .u8) c_1),.sc (.int .i64 c_2),.sc (.int .i64 c_3)]),(2,.list true 1 (List.map rS out_))]⟩) ?_ ?_
 ·refine go ?_
  refine lp (fun s' e'=>∃ i c_4 c_5 c_6 out__1,s'=(i,c_4,c_5,c_6,out__1)∧e'=⟨22,2,3,[(0,.pl (.one (.ref 0 []))),(1,.pl (.one (.v (.sc (.int .i64 n))))),(5,.pl (.one (.ref 2 []))),(6,.pl (.one (.v (.sc (.int .i64 i)))))],[(0,.box true [.list false 1 (List.map (rK .u8) c_4),.sc (.int .i64 c_5),.sc (.int .i64 c_6)]),(2,.list true 1 (List.map rS out__1))]⟩) [0,1,5,6] [(0,0),(3,2)] 3 ⟨_,_,_,_,_,rfl,rfl⟩ ?_
  rintro s' _ ⟨i,c_4,c_5,c_6,out__1,rfl,rfl⟩ y1'
  change Tl _ (zH8 n i c_4 c_5 c_6 out__1) _ _; unfold zH8
  refine sq ?_
  refine go ?_; intro x12
  refine go ?_
  refine sp ?_ ?_
  ·refine go ?_
   refine sq ?_
   refine go ?_; intro x18
   refine go ?_; intro l v'
   refine go ?_
   exact bk [0,1,5,6] [(0,0),(2,2)] 3 ⟨_,_,_,_,_,rfl,rfl⟩
  ·refine go ?_
   exact je [5] [(0,0),(2,2)] 3 fun h=>⟨_,_,_,_,h,rfl⟩
 ·rintro e' ⟨c_1,c_2,c_3,out_,h,rfl⟩; refine tl h ?_; unfold zZ0
  exact gz
instance W_spec_l05Rise:∀ list_ n,Wlk X (zH6 list_ n) 205 [] [.one (.list false 1 (List.map (rK .i64) list_)),.one (.sc (.int .i64 n))] (fun r'=>[.one (.sc (.bool r'))]) (fun r'=>[]):=fun list_ n=>by
 refine ws f205 36 [.tmp 4] (h2 t3 (h2 t39 qM)) ?_
 intro r'; unfold zH6
 refine go ?_
 refine jn (fun e'=>qE9=some r'∧e'=⟨36,2,2,[],[]⟩) ?_ ?_
 ·refine go ?_
  refine lp (fun i e'=>e'=⟨36,2,2,[(0,.pl (.one (.v (.list false 1 (List.map (rK .i64) list_))))),(1,.pl (.one (.v (.sc (.int .i64 n))))),(5,.pl (.one (.v (.sc (.int .i64 i)))))],[]⟩) [0,1,5] [] 2 rfl ?_
  rintro i _ rfl y1'
  change Tl _ (kI list_ n i) _ _; unfold kI
  refine sq ?_
  refine go ?_
  refine sp ?_ ?_
  ·refine go ?_
   refine sq ?_
   refine go ?_
   refine rq ?_
   refine go ?_; intro x v'
   refine go ?_; intro x18
   refine go ?_
   refine qc 15 (fun b e'=>e'=⟨36,2,2,[(0,.pl (.one (.v (.list false 1 (List.map (rK .i64) list_))))),(1,.pl (.one (.v (.sc (.int .i64 n))))),(5,.pl (.one (.v (.sc (.int .i64 i))))),(35,.pl (.one (.v (.sc (.bool b)))))],[]⟩) ?_ ?_
   ·intro p
    refine zD9 ?_ ?_
    ·refine go ?_
     exact ge [0,1,5,35] [] 2 rfl
    ·refine go ?_
     refine qc 11 (fun b_1 e'=>e'=⟨36,2,2,[(0,.pl (.one (.v (.list false 1 (List.map (rK .i64) list_))))),(1,.pl (.one (.v (.sc (.int .i64 n))))),(5,.pl (.one (.v (.sc (.int .i64 i))))),(20,.pl (.one (.v (.sc (.bool false))))),(21,.pl (.one (.v (.sc (.int .i64 i))))),(22,.pl (.one (.v (.sc (.bool (decide (i > 0))))))),(34,.pl (.one (.v (.sc (.bool b_1)))))],[]⟩) ?_ ?_
     ·intro p
      refine quV_spL ?_ ?_
      ·refine go ?_; intro x_1 v'
       refine go ?_
       exact ge [0,1,5,20,21,22,34] [] 2 rfl
      ·refine go ?_
       exact ge [0,1,5,20,21,22,34] [] 2 rfl
     ·rintro b_1 _ rfl
      refine go ?_
      exact ge [0,1,5,35] [] 2 rfl
   ·rintro b _ rfl
    refine go ?_
    refine sp ?_ ?_
    ·exact gz
    ·refine go ?_
     exact bk [0,1,5] [] 2 rfl
  ·refine go ?_
   exact je [] [] 2 fun h=>⟨h,rfl⟩
 ·rintro e' ⟨h,rfl⟩; refine tl h ?_; unfold qE9
  exact gz
instance W_spec_l06Parents:∀ w parents,Wlk X (zE0 w parents) 258 [] [.agg [.list false 1 (List.map (rL false 1 (rK .i64)) w.Parents),.list false 4 (List.map (zA false) w.Bodies)],.one (.list false 1 (List.map (rK .i64) parents))] (fun r'=>[.one (.sc (.bool r'))]) (fun r'=>[]):=fun w parents=>by
 refine ws f258 15 [.tmp 4] (h2 t3 (h2 t24 (h2 t27 (h2 t39 (h2 jF (h2 zL qM)))))) ?_
 intro r'; unfold zE0
 refine go ?_
 refine gc 6 (fun b e'=>e'=⟨15,3,3,[(14,.pl (.one (.v (.sc (.bool b)))))],[]⟩) ?_ ?_
 ·intro p
  refine kT ?_ ?_
  ·refine go ?_; intro x13
   refine go ?_
   exact ge [14] [] 3 rfl
  ·refine go ?_
   exact ge [14] [] 3 rfl
 ·rintro b _ rfl
  exact gz
instance W_spec_LineOk:∀ line,Wlk X (zR9 line) 204 [] [.one (.sc (.string line))] (fun r'=>[.one (.sc (.bool r'))]) (fun r'=>[]):=fun line=>by
 refine ws f204 17 [.tmp 2] (h2 t3 (h2 t5 t9)) ?_
 intro r'; unfold zR9
 refine go ?_
 refine jn (fun e'=>zX1 line=some r'∧e'=⟨17,1,1,[(0,.pl (.one (.v (.sc (.string line)))))],[]⟩) ?_ ?_
 ·refine go ?_
  refine lp (fun i e'=>e'=⟨17,1,1,[(0,.pl (.one (.v (.sc (.string line))))),(3,.pl (.one (.v (.sc (.int .i64 i)))))],[]⟩) [0,3] [] 1 rfl ?_
  rintro i _ rfl y1'
  change Tl _ (zB7 line i) _ _; unfold zB7
  refine sq ?_
  refine go ?_
  refine sp ?_ ?_
  ·refine go ?_
   refine sq ?_
   refine go ?_; intro x12 v'
   refine go ?_
   refine sp ?_ ?_
   ·exact gz
   ·refine go ?_
    exact bk [0,3] [] 1 rfl
  ·refine go ?_
   exact je [0] [] 1 fun h=>⟨h,rfl⟩
 ·rintro e' ⟨h,rfl⟩; refine tl h ?_; unfold zX1
  exact gz
instance W_spec_l03All:∀ list_ most,Wlk X (zG6 list_ most) 209 [] [.one (.list false 1 (List.map rS list_)),.one (.sc (.int .i64 most))] (fun r'=>[.one (.sc (.bool r'))]) (fun r'=>[]):=fun list_ most=>by
 refine ws f209 22 [.tmp 4] (h2 t3 (h2 t9 (h2 t36 R_s))) ?_
 intro r'; unfold zG6
 refine go ?_
 refine sq ?_
 refine go ?_
 refine sp ?_ ?_
 ·exact gz
 ·refine go ?_
  refine jn (fun e'=>qF8=some r'∧e'=⟨22,2,2,[],[]⟩) ?_ ?_
  ·refine go ?_
   refine lp (fun i e'=>e'=⟨22,2,2,[(0,.pl (.one (.v (.list false 1 (List.map rS list_))))),(5,.pl (.one (.v (.sc (.int .i64 i)))))],[]⟩) [0,5] [] 2 rfl ?_
   rintro i _ rfl y1'
   change Tl _ (yI list_ i) _ _; unfold yI
   refine sq ?_
   refine go ?_
   refine sp ?_ ?_
   ·refine go ?_
    refine sq ?_
    refine go ?_; intro x v'
    refine go ?_; intro x20
    refine go ?_
    refine sp ?_ ?_
    ·exact gz
    ·refine go ?_
     exact bk [0,5] [] 2 rfl
   ·refine go ?_
    exact je [] [] 2 fun h=>⟨h,rfl⟩
  ·rintro e' ⟨h,rfl⟩; refine tl h ?_; unfold qF8
   exact gz
instance W_spec_LinesOk:∀ list_,Wlk X (zO8 list_) 120 [] [.one (.list false 1 (List.map rS list_))] (fun r'=>[.one (.sc (.bool r'))]) (fun r'=>[]):=fun list_=>by
 refine ws f120 5 [.tmp 2] R_s ?_
 intro r'; unfold zO8
 refine go ?_; intro x4
 exact gz
instance W_spec_l04Ok:∀ a,Wlk X (qE1 a) 290 [] [.one (.list false 1 (List.map rS a))] (fun r'=>[.one (.sc (.bool r'))]) (fun r'=>[]):=fun a=>by
 refine ws f290 5 [.tmp 2] R_s ?_
 intro r'; unfold qE1
 refine go ?_; intro x4
 exact gz
instance W_spec_l04Table:∀ a b,Wlk X (zR4 a b) 291 [] [.one (.list false 1 (List.map rS a)),.one (.list false 1 (List.map rS b))] (fun r'=>[.one (.list true 1 (List.map (rL true 1 (rK .i64)) r'))]) (fun r'=>[]):=fun a b=>by
 refine ws f291 92 [.tmp 4] (h2 t3 (h2 t9 (h2 t24 (h2 t36 (h2 t39 (h2 jF (h2 qM R_s))))))) ?_
 intro r'; unfold zR4
 refine go ?_
 refine l1 ?_
 refine go ?_; intro x12 v'
 refine fk (mklR_f (rL true 1 (rK .i64)) [.list true 1 []] (by rfl) v') ?_
 refine go ?_
 refine jn (fun e'=>∃ t,zZ1 t=some r'∧e'=⟨92,2,3,[(5,.pl (.one (.ref 2 [])))],[(2,.list true 1 (List.map (rL true 1 (rK .i64)) t))]⟩) ?_ ?_
 ·refine go ?_
  refine lp (fun s' e'=>∃ i t_1,s'=(i,t_1)∧e'=⟨92,2,3,[(0,.pl (.one (.v (.list false 1 (List.map rS a))))),(1,.pl (.one (.v (.list false 1 (List.map rS b))))),(5,.pl (.one (.ref 2 []))),(6,.pl (.one (.v (.sc (.int .i64 i)))))],[(2,.list true 1 (List.map (rL true 1 (rK .i64)) t_1))]⟩) [0,1,5,6] [(3,2)] 3 ⟨_,_,rfl,rfl⟩ ?_
  rintro s' _ ⟨i,t_1,rfl,rfl⟩ y1'
  change Tl _ (kX a b i t_1) _ _; unfold kX
  refine sq ?_
  refine go ?_
  refine sp ?_ ?_
  ·refine go ?_
   refine jn (fun e'=>∃ t_2,zQ4 i t_2=some y1'∧e'=⟨92,2,3,[(0,.pl (.one (.v (.list false 1 (List.map rS a))))),(1,.pl (.one (.v (.list false 1 (List.map rS b))))),(5,.pl (.one (.ref 2 []))),(6,.pl (.one (.v (.sc (.int .i64 i)))))],[(2,.list true 1 (List.map (rL true 1 (rK .i64)) t_2))]⟩) ?_ ?_
   ·refine go ?_; intro x24 v'
    refine go ?_; intro x v'
    refine go ?_
    refine lp (fun s' e'=>∃ j t_3,s'=(j,t_3)∧e'=⟨92,2,3,[(0,.pl (.one (.v (.list false 1 (List.map rS a))))),(1,.pl (.one (.v (.list false 1 (List.map rS b))))),(5,.pl (.one (.ref 2 []))),(6,.pl (.one (.v (.sc (.int .i64 i))))),(7,.pl (.one (.v (.sc (.int .i64 j)))))],[(2,.list true 1 (List.map (rL true 1 (rK .i64)) t_3))]⟩) [0,1,5,6,7] [(2,2)] 3 ⟨_,_,rfl,rfl⟩ ?_
    rintro s' _ ⟨j,t_3,rfl,rfl⟩ y2'
    change Tl _ (xT a b i j t_3) _ _; unfold xT
    refine sq ?_
    refine go ?_
    refine gc 5 (fun b_1 e'=>e'=⟨92,2,3,[(0,.pl (.one (.v (.list false 1 (List.map rS a))))),(1,.pl (.one (.v (.list false 1 (List.map rS b))))),(5,.pl (.one (.ref 2 []))),(6,.pl (.one (.v (.sc (.int .i64 i))))),(7,.pl (.one (.v (.sc (.int .i64 j))))),(36,.pl (.one (.v (.sc (.bool b_1)))))],[(2,.list true 1 (List.map (rL true 1 (rK .i64)) t_3))]⟩) ?_ ?_
    ·intro p
     refine kT ?_ ?_
     ·refine go ?_
      exact ge [0,1,5,6,7,36] [(2,2)] 3 rfl
     ·refine go ?_
      exact ge [0,1,5,6,7,36] [(2,2)] 3 rfl
    ·rintro b_1 _ rfl
     refine go ?_
     refine sp ?_ ?_
     ·refine go ?_
      refine sq ?_
      refine go ?_; intro x_1 v'
      refine go ?_; intro x_2 v'
      refine go ?_; intro x_11 v'
      refine go ?_; intro x_12 v'
      refine go ?_
      refine jn (fun e'=>∃ x_3,zC5 a b i j t_3 x_3=some y2'∧e'=⟨92,2,3,[(0,.pl (.one (.v (.list false 1 (List.map rS a))))),(1,.pl (.one (.v (.list false 1 (List.map rS b))))),(5,.pl (.one (.ref 2 []))),(6,.pl (.one (.v (.sc (.int .i64 i))))),(7,.pl (.one (.v (.sc (.int .i64 j))))),(8,.pl (.one (.v (.sc (.int .i64 x_3)))))],[(2,.list true 1 (List.map (rL true 1 (rK .i64)) t_3))]⟩) ?_ ?_
      ·refine go ?_
       refine sp ?_ ?_
       ·refine go ?_
        exact je [0,1,5,6,7,8] [(2,2)] 3 fun h=>⟨_,h,rfl⟩
       ·refine go ?_
        exact je [0,1,5,6,7,8] [(2,2)] 3 fun h=>⟨_,h,rfl⟩
      ·rintro e' ⟨x_3,h,rfl⟩; refine tl h ?_; unfold zC5
       refine jn (fun e'=>∃ x_4,zC6 i j t_3 x_4=some y2'∧e'=⟨92,2,3,[(0,.pl (.one (.v (.list false 1 (List.map rS a))))),(1,.pl (.one (.v (.list false 1 (List.map rS b))))),(5,.pl (.one (.ref 2 []))),(6,.pl (.one (.v (.sc (.int .i64 i))))),(7,.pl (.one (.v (.sc (.int .i64 j))))),(8,.pl (.one (.v (.sc (.int .i64 x_4)))))],[(2,.list true 1 (List.map (rL true 1 (rK .i64)) t_3))]⟩) ?_ ?_
       ·refine go ?_
        refine rq ?_
        refine go ?_; intro x_7 v'
        refine go ?_; intro x_8 v'
        refine go ?_
        refine sp ?_ ?_
        ·refine go ?_; intro x_9 v'
         refine go ?_; intro x_10 v'
         refine go ?_
         exact je [0,1,5,6,7,8] [(2,2)] 3 fun h=>⟨_,h,rfl⟩
        ·refine go ?_
         exact je [0,1,5,6,7,8] [(2,2)] 3 fun h=>⟨_,h,rfl⟩
       ·rintro e' ⟨x_4,h,rfl⟩; refine tl h ?_; unfold zC6
        refine go ?_; intro x_5 v'
        refine go ?_; intro x_6 v'
        refine go ?_
        exact bk [0,1,5,6,7] [(2,2)] 3 ⟨_,_,rfl,rfl⟩
     ·refine go ?_
      exact je [0,1,5,6] [(2,2)] 3 fun h=>⟨_,h,rfl⟩
   ·rintro e' ⟨t_2,h,rfl⟩; refine tl h ?_; unfold zQ4
    refine go ?_
    exact bk [0,1,5,6] [(2,2)] 3 ⟨_,_,rfl,rfl⟩
  ·refine go ?_
   exact je [5] [(2,2)] 3 fun h=>⟨_,h,rfl⟩
 ·rintro e' ⟨t,h,rfl⟩; refine tl h ?_; unfold zZ1
  exact gz
instance W_spec_Align:∀ a b,Wlk X (zQ1 a b) 259 [] [.one (.list false 1 (List.map rS a)),.one (.list false 1 (List.map rS b))] (fun r'=>[.one (.list true 1 (List.map (rK .i64) r'))]) (fun r'=>[]):=fun a b=>by
 refine ws f259 83 [.tmp 4] (h2 t3 (h2 t9 (h2 t24 (h2 t36 (h2 t39 (h2 jF (h2 qM R_s))))))) ?_
 intro r'; unfold zQ1
 refine go ?_
 refine l1 ?_
 refine go ?_
 refine sq ?_
 refine go ?_; intro x11
 refine go ?_
 refine gc 4 (fun b_1 e'=>e'=⟨83,2,3,[(0,.pl (.one (.v (.list false 1 (List.map rS a))))),(1,.pl (.one (.v (.list false 1 (List.map rS b))))),(5,.pl (.one (.ref 2 []))),(17,.pl (.one (.v (.sc (.bool b_1)))))],[(2,.list true 1 (List.map (rK .i64) []))]⟩) ?_ ?_
 ·intro p
  refine xG ?_ ?_
  ·refine go ?_
   exact ge [0,1,5,17] [(3,2)] 3 rfl
  ·refine go ?_; intro x15
   refine go ?_
   exact ge [0,1,5,17] [(3,2)] 3 rfl
 ·rintro b_1 _ rfl
  refine go ?_
  refine sp ?_ ?_
  ·exact gz
  ·refine go ?_; intro x21
   refine go ?_
   refine jn (fun e'=>∃ j out_,zY8 b j out_=some r'∧e'=⟨83,2,3,[(1,.pl (.one (.v (.list false 1 (List.map rS b))))),(5,.pl (.one (.ref 2 []))),(8,.pl (.one (.v (.sc (.int .i64 j)))))],[(2,.list true 1 (List.map (rK .i64) out_))]⟩) ?_ ?_
   ·refine go ?_
    refine lp (fun s' e'=>∃ i j_2 out__3,s'=(i,j_2,out__3)∧e'=⟨83,2,4,[(0,.pl (.one (.v (.list false 1 (List.map rS a))))),(1,.pl (.one (.v (.list false 1 (List.map rS b))))),(5,.pl (.one (.ref 2 []))),(6,.pl (.one (.ref 3 []))),(7,.pl (.one (.v (.sc (.int .i64 i))))),(8,.pl (.one (.v (.sc (.int .i64 j_2)))))],[(2,.list true 1 (List.map (rK .i64) out__3)),(3,.list true 1 (List.map (rL true 1 (rK .i64)) x21))]⟩) [0,1,5,6,7,8] [(2,2),(3,3)] 4 ⟨_,_,_,rfl,rfl⟩ ?_
    rintro s' _ ⟨i,j_2,out__3,rfl,rfl⟩ y1'
    change Tl _ (zR3 a b x21 i j_2 out__3) _ _; unfold zR3
    refine sq ?_
    refine go ?_
    refine gc 5 (fun b_2 e'=>e'=⟨83,2,4,[(0,.pl (.one (.v (.list false 1 (List.map rS a))))),(1,.pl (.one (.v (.list false 1 (List.map rS b))))),(5,.pl (.one (.ref 2 []))),(6,.pl (.one (.ref 3 []))),(7,.pl (.one (.v (.sc (.int .i64 i))))),(8,.pl (.one (.v (.sc (.int .i64 j_2))))),(31,.pl (.one (.v (.sc (.bool b_2)))))],[(2,.list true 1 (List.map (rK .i64) out__3)),(3,.list true 1 (List.map (rL true 1 (rK .i64)) x21))]⟩) ?_ ?_
    ·intro p
     refine kT ?_ ?_
     ·refine go ?_
      exact ge [0,1,5,6,7,8,31] [(2,2),(3,3)] 4 rfl
     ·refine go ?_
      exact ge [0,1,5,6,7,8,31] [(2,2),(3,3)] 4 rfl
    ·rintro b_2 _ rfl
     refine go ?_
     refine sp ?_ ?_
     ·refine go ?_
      refine rq ?_
      refine go ?_; intro x v'
      refine go ?_; intro x_1 v'
      refine go ?_
      refine sp ?_ ?_
      ·refine go ?_; intro l_1 v'
       refine go ?_
       exact bk [0,1,5,6,7,8] [(2,2),(3,3)] 4 ⟨_,_,_,rfl,rfl⟩
      ·refine go ?_
       refine rq ?_
       refine go ?_; intro x_2 v'
       refine go ?_; intro x_3 v'
       refine go ?_; intro x_4 v'
       refine go ?_; intro x_5 v'
       refine go ?_
       refine sp ?_ ?_
       ·refine go ?_
        exact bk [0,1,5,6,7,8] [(2,2),(3,3)] 4 ⟨_,_,_,rfl,rfl⟩
       ·refine go ?_; intro l_2 v'
        refine go ?_
        exact bk [0,1,5,6,7,8] [(2,2),(3,3)] 4 ⟨_,_,_,rfl,rfl⟩
     ·refine go ?_
      exact je [1,5,8] [(2,2)] 3 fun h=>⟨_,_,h,rfl⟩
   ·rintro e' ⟨j,out_,h,rfl⟩; refine tl h ?_; unfold zY8
    refine jn (fun e'=>∃ out__1,qH5 out__1=some r'∧e'=⟨83,2,3,[(5,.pl (.one (.ref 2 [])))],[(2,.list true 1 (List.map (rK .i64) out__1))]⟩) ?_ ?_
    ·refine go ?_
     refine lp (fun s' e'=>∃ j_1 out__2,s'=(j_1,out__2)∧e'=⟨83,2,3,[(1,.pl (.one (.v (.list false 1 (List.map rS b))))),(5,.pl (.one (.ref 2 []))),(8,.pl (.one (.v (.sc (.int .i64 j_1)))))],[(2,.list true 1 (List.map (rK .i64) out__2))]⟩) [1,5,8] [(2,2)] 3 ⟨_,_,rfl,rfl⟩ ?_
     rintro s' _ ⟨j_1,out__2,rfl,rfl⟩ y1'
     change Tl _ (zQ9 b j_1 out__2) _ _; unfold zQ9
     refine sq ?_
     refine go ?_
     refine sp ?_ ?_
     ·refine go ?_
      refine sq ?_
      refine go ?_; intro l v'
      refine go ?_
      exact bk [1,5,8] [(2,2)] 3 ⟨_,_,rfl,rfl⟩
     ·refine go ?_
      exact je [5] [(2,2)] 3 fun h=>⟨_,h,rfl⟩
    ·rintro e' ⟨out__1,h,rfl⟩; refine tl h ?_; unfold qH5
     exact gz
instance W_spec_l06Add:∀ w parents lines,Wlk X (zS1 w parents lines) 180 [] [.agg [.list false 1 (List.map (rL false 1 (rK .i64)) w.Parents),.list false 4 (List.map (zA false) w.Bodies)],.one (.list false 1 (List.map (rK .i64) parents)),.one (.list false 1 (List.map rS lines))] (fun r'=>[.agg [.list true 1 (List.map (rL true 1 (rK .i64)) r'.1.Parents),.list true 4 (List.map (zA true) r'.1.Bodies)],.one (.sc (.int .i64 r'.2.1)),.one (.sc (.int .i64 r'.2.2))]) (fun r'=>[]):=fun w parents lines=>by
 refine ws f180 197 [.cell 6 27,.tmp 7,.tmp 8] (h2 t3 (h2 t4 (h2 t9 (h2 t24 (h2 t25 (h2 t27 (h2 t36 (h2 t39 (h2 t46 (h2 t188 (h2 t287 (h2 jF (h2 R_Ls (h2 zL (h2 R_b (h2 qM R_s)))))))))))))))) ?_
 intro r'; unfold zS1
 refine go ?_
 refine l1 ?_
 refine go ?_
 refine sq ?_
 refine go ?_; intro x25
 refine go ?_
 refine sp ?_ ?_
 ·exact gz
 ·refine go ?_
  refine sq ?_
  refine go ?_; intro x29
  refine go ?_
  refine sp ?_ ?_
  ·exact gz
  ·refine go ?_
   refine sq ?_
   refine go ?_
   refine sp ?_ ?_
   ·exact gz
   ·refine go ?_; intro x40
    refine go ?_; intro x43
    refine go ?_; intro x45
    refine go ?_; intro x50 v'
    refine fk (mklR_f (rL true 1 rS) [.list true 1 []] (by rfl) v') ?_
    refine go ?_; intro x54 v'
    refine go ?_
    refine jn (fun e'=>∃ behind stays,zW2 w parents behind stays=some r'∧e'=⟨197,4,8,[(1,.pl (.one (.v (.list false 1 (List.map (rK .i64) parents))))),(3,.pl (.one (.ref 4 []))),(6,.pl (.one (.ref 5 []))),(9,.pl (.one (.v (.sc (.int .i64 (w.Parents.length:Int)))))),(12,.pl (.one (.ref 6 []))),(13,.pl (.one (.ref 7 [])))],[(4,.box true [.list false 1 (List.map (rL false 1 (rK .i64)) w.Parents),.list false 4 (List.map (zA false) w.Bodies)]),(5,.box true [.list true 1 (List.map (rL true 1 (rK .i64)) []),.list true 4 (List.map (zA true) [])]),(6,.list true 1 (List.map (rL true 1 rS) behind)),(7,.list true 1 (List.map rB stays))]⟩) ?_ ?_
    ·refine go ?_
     refine lp (fun s' e'=>∃ at_ i_1 behind_1 stays_1,s'=(at_,i_1,behind_1,stays_1)∧e'=⟨197,4,10,[(1,.pl (.one (.v (.list false 1 (List.map (rK .i64) parents))))),(2,.pl (.one (.v (.list false 1 (List.map rS lines))))),(3,.pl (.one (.ref 4 []))),(6,.pl (.one (.ref 5 []))),(9,.pl (.one (.v (.sc (.int .i64 (w.Parents.length:Int)))))),(10,.pl (.one (.ref 6 []))),(11,.pl (.one (.ref 7 []))),(12,.pl (.one (.ref 8 []))),(13,.pl (.one (.ref 9 []))),(14,.pl (.one (.v (.sc (.int .i64 at_))))),(15,.pl (.one (.v (.sc (.int .i64 i_1)))))],[(4,.box true [.list false 1 (List.map (rL false 1 (rK .i64)) w.Parents),.list false 4 (List.map (zA false) w.Bodies)]),(5,.box true [.list true 1 (List.map (rL true 1 (rK .i64)) []),.list true 4 (List.map (zA true) [])]),(6,.list true 1 (List.map (rK .i64) x40)),(7,.list true 1 (List.map (rK .i64) x45)),(8,.list true 1 (List.map (rL true 1 rS) behind_1)),(9,.list true 1 (List.map rB stays_1))]⟩) [1,2,3,6,9,10,11,12,13,14,15] [(4,4),(5,5),(8,6),(10,7),(11,8),(12,9)] 10 ⟨_,_,_,_,rfl,rfl⟩ ?_
     rintro s' _ ⟨at_,i_1,behind_1,stays_1,rfl,rfl⟩ y1'
     change Tl _ (yJ lines x40 x45 at_ i_1 behind_1 stays_1) _ _; unfold yJ
     refine sq ?_
     refine go ?_
     refine sp ?_ ?_
     ·refine go ?_
      refine sq ?_
      refine go ?_; intro x_5 v'
      refine go ?_
      refine sp ?_ ?_
      ·refine go ?_; intro x_6 v'
       refine go ?_; intro x_7 v'
       refine go ?_
       exact bk [1,2,3,6,9,10,11,12,13,14,15] [(4,4),(5,5),(6,6),(7,7),(8,8),(9,9)] 10 ⟨_,_,_,_,rfl,rfl⟩
      ·refine rc [0,1,2,3,4,6,7,8,5,9,10,11,12,13] ?_
       refine go ?_; intro x_8 v'
       refine go ?_; intro x_9 v'
       refine go ?_; intro l_8 v'
       refine go ?_
       exact bk [1,2,3,6,9,10,11,12,13,14,15] [(4,4),(5,5),(6,6),(7,7),(8,8),(9,9)] 10 ⟨_,_,_,_,rfl,rfl⟩
     ·refine go ?_
      exact je [1,3,6,9,12,13] [(4,4),(5,5),(8,6),(9,7)] 8 fun h=>⟨_,_,h,rfl⟩
    ·rintro e' ⟨behind,stays,h,rfl⟩; refine tl h ?_; unfold zW2
     refine go ?_
     refine l1 ?_
     refine go ?_
     refine jn (fun e'=>∃ out_,zV9 w parents behind stays out_=some r'∧e'=⟨197,4,9,[(1,.pl (.one (.v (.list false 1 (List.map (rK .i64) parents))))),(3,.pl (.one (.ref 4 []))),(6,.pl (.one (.ref 5 []))),(9,.pl (.one (.v (.sc (.int .i64 (w.Parents.length:Int)))))),(12,.pl (.one (.ref 6 []))),(13,.pl (.one (.ref 7 []))),(16,.pl (.one (.ref 8 [])))],[(4,.box true [.list false 1 (List.map (rL false 1 (rK .i64)) w.Parents),.list false 4 (List.map (zA false) w.Bodies)]),(5,.box true [.list true 1 (List.map (rL true 1 (rK .i64)) []),.list true 4 (List.map (zA true) [])]),(6,.list true 1 (List.map (rL true 1 rS) behind)),(7,.list true 1 (List.map rB stays)),(8,.box true [.list true 1 (List.map (rL true 1 (rK .i64)) out_),.list true 4 (List.map (zA true) [])])]⟩) ?_ ?_
     ·refine go ?_
      refine lp (fun s' e'=>∃ k_1 out__6,s'=(k_1,out__6)∧e'=⟨197,4,9,[(1,.pl (.one (.v (.list false 1 (List.map (rK .i64) parents))))),(3,.pl (.one (.ref 4 []))),(6,.pl (.one (.ref 5 []))),(9,.pl (.one (.v (.sc (.int .i64 (w.Parents.length:Int)))))),(12,.pl (.one (.ref 6 []))),(13,.pl (.one (.ref 7 []))),(16,.pl (.one (.ref 8 []))),(17,.pl (.one (.v (.sc (.int .i64 k_1)))))],[(4,.box true [.list false 1 (List.map (rL false 1 (rK .i64)) w.Parents),.list false 4 (List.map (zA false) w.Bodies)]),(5,.box true [.list true 1 (List.map (rL true 1 (rK .i64)) []),.list true 4 (List.map (zA true) [])]),(6,.list true 1 (List.map (rL true 1 rS) behind)),(7,.list true 1 (List.map rB stays)),(8,.box true [.list true 1 (List.map (rL true 1 (rK .i64)) out__6),.list true 4 (List.map (zA true) [])])]⟩) [1,3,6,9,12,13,16,17] [(4,4),(5,5),(6,6),(7,7),(8,8)] 9 ⟨_,_,rfl,rfl⟩ ?_
      rintro s' _ ⟨k_1,out__6,rfl,rfl⟩ y1'
      change Tl _ (yH w k_1 out__6) _ _; unfold yH
      refine sq ?_
      refine go ?_
      refine sp ?_ ?_
      ·refine go ?_
       refine sq ?_
       refine go ?_
       refine rc [0,3,5,1,2,4,6,7,8,9,10,11,12] ?_
       refine go ?_; intro x_4 v'
       refine go ?_; intro l_6 v'
       refine fk (appz_f (rK .i64) v') ?_
       refine go ?_; intro l_7 v'
       refine go ?_
       exact bk [1,3,6,9,12,13,16,17] [(4,4),(5,5),(6,6),(7,7),(8,8)] 9 ⟨_,_,rfl,rfl⟩
      ·refine go ?_
       exact je [1,3,6,9,12,13,16] [(4,4),(5,5),(6,6),(7,7),(8,8)] 9 fun h=>⟨_,h,rfl⟩
     ·rintro e' ⟨out_,h,rfl⟩; refine tl h ?_; unfold zV9
      refine go ?_
      refine rc [0,3,1,2,4,5,6,7,8] ?_
      refine go ?_; intro l v'
      refine fk (appz_f (rK .i64) v') ?_
      refine go ?_; intro l_1 v'
      refine go ?_; intro x120
      refine go ?_
      refine jn (fun e'=>∃ out__1,zX2 w l_1 out__1=some r'∧e'=⟨197,4,6,[(6,.pl (.one (.ref 4 []))),(9,.pl (.one (.v (.sc (.int .i64 (w.Parents.length:Int)))))),(16,.pl (.one (.ref 5 [])))],[(4,.box true [.list true 1 (List.map (rL true 1 (rK .i64)) []),.list true 4 (List.map (zA true) [])]),(5,.box true [.list true 1 (List.map (rL true 1 (rK .i64)) l_1),.list true 4 (List.map (zA true) out__1)])]⟩) ?_ ?_
      ·refine go ?_
       refine lp (fun s' e'=>∃ ord i out__2,s'=(ord,i,out__2)∧e'=⟨197,4,10,[(3,.pl (.one (.ref 4 []))),(6,.pl (.one (.ref 5 []))),(9,.pl (.one (.v (.sc (.int .i64 (w.Parents.length:Int)))))),(12,.pl (.one (.ref 6 []))),(13,.pl (.one (.ref 7 []))),(16,.pl (.one (.ref 8 []))),(18,.pl (.one (.ref 9 []))),(19,.pl (.one (.v (.sc (.int .i64 ord))))),(20,.pl (.one (.v (.sc (.int .i64 i)))))],[(4,.box true [.list false 1 (List.map (rL false 1 (rK .i64)) w.Parents),.list false 4 (List.map (zA false) w.Bodies)]),(5,.box true [.list true 1 (List.map (rL true 1 (rK .i64)) []),.list true 4 (List.map (zA true) [])]),(6,.list true 1 (List.map (rL true 1 rS) behind)),(7,.list true 1 (List.map rB stays)),(8,.box true [.list true 1 (List.map (rL true 1 (rK .i64)) l_1),.list true 4 (List.map (zA true) out__2)]),(9,.list true 1 (List.map rB x120))]⟩) [3,6,9,12,13,16,18,19,20] [(4,4),(5,5),(6,6),(7,7),(8,8),(12,9)] 10 ⟨_,_,_,rfl,rfl⟩ ?_
       rintro s' _ ⟨ord,i,out__2,rfl,rfl⟩ y1'
       change Tl _ (jQ w behind stays x120 ord i out__2) _ _; unfold jQ
       refine sq ?_
       refine go ?_
       refine sp ?_ ?_
       ·refine go ?_
        refine jn (fun e'=>∃ ord_1 out__3,zO6 i ord_1 out__3=some y1'∧e'=⟨197,4,10,[(3,.pl (.one (.ref 4 []))),(6,.pl (.one (.ref 5 []))),(9,.pl (.one (.v (.sc (.int .i64 (w.Parents.length:Int)))))),(12,.pl (.one (.ref 6 []))),(13,.pl (.one (.ref 7 []))),(16,.pl (.one (.ref 8 []))),(18,.pl (.one (.ref 9 []))),(19,.pl (.one (.v (.sc (.int .i64 ord_1))))),(20,.pl (.one (.v (.sc (.int .i64 i)))))],[(4,.box true [.list false 1 (List.map (rL false 1 (rK .i64)) w.Parents),.list false 4 (List.map (zA false) w.Bodies)]),(5,.box true [.list true 1 (List.map (rL true 1 (rK .i64)) []),.list true 4 (List.map (zA true) [])]),(6,.list true 1 (List.map (rL true 1 rS) behind)),(7,.list true 1 (List.map rB stays)),(8,.box true [.list true 1 (List.map (rL true 1 (rK .i64)) l_1),.list true 4 (List.map (zA true) out__3)]),(9,.list true 1 (List.map rB x120))]⟩) ?_ ?_
        ·refine go ?_
         refine jn (fun e'=>∃ out__4,uJ w behind ord i out__4=some y1'∧e'=⟨197,4,10,[(3,.pl (.one (.ref 4 []))),(6,.pl (.one (.ref 5 []))),(9,.pl (.one (.v (.sc (.int .i64 (w.Parents.length:Int)))))),(12,.pl (.one (.ref 6 []))),(13,.pl (.one (.ref 7 []))),(16,.pl (.one (.ref 8 []))),(18,.pl (.one (.ref 9 []))),(19,.pl (.one (.v (.sc (.int .i64 ord))))),(20,.pl (.one (.v (.sc (.int .i64 i)))))],[(4,.box true [.list false 1 (List.map (rL false 1 (rK .i64)) w.Parents),.list false 4 (List.map (zA false) w.Bodies)]),(5,.box true [.list true 1 (List.map (rL true 1 (rK .i64)) []),.list true 4 (List.map (zA true) [])]),(6,.list true 1 (List.map (rL true 1 rS) behind)),(7,.list true 1 (List.map rB stays)),(8,.box true [.list true 1 (List.map (rL true 1 (rK .i64)) l_1),.list true 4 (List.map (zA true) out__4)]),(9,.list true 1 (List.map rB x120))]⟩) ?_ ?_
         ·refine go ?_
          refine sp ?_ ?_
          ·refine go ?_; intro x_2 v'
           refine go ?_
           refine l1 ?_
           refine go ?_; intro l_3 v'
           refine fk (appz_f (rK .i64) v') ?_
           refine go ?_
           refine jn (fun e'=>∃ b,zH1 w behind ord i out__2 x_2 b=some y1'∧e'=⟨197,4,11,[(3,.pl (.one (.ref 4 []))),(6,.pl (.one (.ref 5 []))),(9,.pl (.one (.v (.sc (.int .i64 (w.Parents.length:Int)))))),(12,.pl (.one (.ref 6 []))),(13,.pl (.one (.ref 7 []))),(16,.pl (.one (.ref 8 []))),(18,.pl (.one (.ref 9 []))),(19,.pl (.one (.v (.sc (.int .i64 ord))))),(20,.pl (.one (.v (.sc (.int .i64 i))))),(21,.pl (.one (.ref 10 [])))],[(4,.box true [.list false 1 (List.map (rL false 1 (rK .i64)) w.Parents),.list false 4 (List.map (zA false) w.Bodies)]),(5,.box true [.list true 1 (List.map (rL true 1 (rK .i64)) []),.list true 4 (List.map (zA true) [])]),(6,.list true 1 (List.map (rL true 1 rS) behind)),(7,.list true 1 (List.map rB stays)),(8,.box true [.list true 1 (List.map (rL true 1 (rK .i64)) l_1),.list true 4 (List.map (zA true) out__2)]),(9,.list true 1 (List.map rB x120)),(10,.box true [.sc (.string x_2.Line),.sc (.int .i64 x_2.Ins),.sc (.int .i64 x_2.Ord),.list true 1 (List.map (rK .i64) b)])]⟩) ?_ ?_
           ·refine go ?_; intro x_3 v'
            refine go ?_
            refine gc 4 (fun b_1 e'=>e'=⟨197,4,11,[(3,.pl (.one (.ref 4 []))),(6,.pl (.one (.ref 5 []))),(9,.pl (.one (.v (.sc (.int .i64 (w.Parents.length:Int)))))),(12,.pl (.one (.ref 6 []))),(13,.pl (.one (.ref 7 []))),(16,.pl (.one (.ref 8 []))),(18,.pl (.one (.ref 9 []))),(19,.pl (.one (.v (.sc (.int .i64 ord))))),(20,.pl (.one (.v (.sc (.int .i64 i))))),(21,.pl (.one (.ref 10 []))),(151,.pl (.one (.v (.sc (.bool b_1)))))],[(4,.box true [.list false 1 (List.map (rL false 1 (rK .i64)) w.Parents),.list false 4 (List.map (zA false) w.Bodies)]),(5,.box true [.list true 1 (List.map (rL true 1 (rK .i64)) []),.list true 4 (List.map (zA true) [])]),(6,.list true 1 (List.map (rL true 1 rS) behind)),(7,.list true 1 (List.map rB stays)),(8,.box true [.list true 1 (List.map (rL true 1 (rK .i64)) l_1),.list true 4 (List.map (zA true) out__2)]),(9,.list true 1 (List.map rB x120)),(10,.box true [.sc (.string x_2.Line),.sc (.int .i64 x_2.Ins),.sc (.int .i64 x_2.Ord),.list true 1 (List.map (rK .i64) l_3)])]⟩) ?_ ?_
            ·intro p
             refine kT ?_ ?_
             ·refine go ?_; intro x150
              refine go ?_
              exact ge [3,6,9,12,13,16,18,19,20,21,151] [(4,4),(5,5),(6,6),(7,7),(8,8),(9,9),(10,10)] 11 rfl
             ·refine go ?_
              exact ge [3,6,9,12,13,16,18,19,20,21,151] [(4,4),(5,5),(6,6),(7,7),(8,8),(9,9),(10,10)] 11 rfl
            ·rintro b_1 _ rfl
             refine go ?_
             refine sp ?_ ?_
             ·refine go ?_; intro l_5 v'
              refine go ?_
              exact je [3,6,9,12,13,16,18,19,20,21] [(4,4),(5,5),(6,6),(7,7),(8,8),(9,9),(10,10)] 11 fun h=>⟨_,h,rfl⟩
             ·refine go ?_
              exact je [3,6,9,12,13,16,18,19,20,21] [(4,4),(5,5),(6,6),(7,7),(8,8),(9,9),(10,10)] 11 fun h=>⟨_,h,rfl⟩
           ·rintro e' ⟨b,h,rfl⟩; refine tl h ?_; unfold zH1
            refine go ?_; intro l_4 v'
            refine go ?_
            exact je [3,6,9,12,13,16,18,19,20] [(4,4),(5,5),(6,6),(7,7),(8,8),(9,9)] 10 fun h=>⟨_,h,rfl⟩
          ·refine go ?_
           exact je [3,6,9,12,13,16,18,19,20] [(4,4),(5,5),(6,6),(7,7),(8,8),(9,9)] 10 fun h=>⟨_,h,rfl⟩
         ·rintro e' ⟨out__4,h,rfl⟩; refine tl h ?_; unfold uJ
          refine go ?_
          refine lp (fun s' e'=>∃ ord_2 k out__5,s'=(ord_2,k,out__5)∧e'=⟨197,4,10,[(3,.pl (.one (.ref 4 []))),(6,.pl (.one (.ref 5 []))),(9,.pl (.one (.v (.sc (.int .i64 (w.Parents.length:Int)))))),(12,.pl (.one (.ref 6 []))),(13,.pl (.one (.ref 7 []))),(16,.pl (.one (.ref 8 []))),(18,.pl (.one (.ref 9 []))),(19,.pl (.one (.v (.sc (.int .i64 ord_2))))),(20,.pl (.one (.v (.sc (.int .i64 i))))),(22,.pl (.one (.v (.sc (.int .i64 k)))))],[(4,.box true [.list false 1 (List.map (rL false 1 (rK .i64)) w.Parents),.list false 4 (List.map (zA false) w.Bodies)]),(5,.box true [.list true 1 (List.map (rL true 1 (rK .i64)) []),.list true 4 (List.map (zA true) [])]),(6,.list true 1 (List.map (rL true 1 rS) behind)),(7,.list true 1 (List.map rB stays)),(8,.box true [.list true 1 (List.map (rL true 1 (rK .i64)) l_1),.list true 4 (List.map (zA true) out__5)]),(9,.list true 1 (List.map rB x120))]⟩) [3,6,9,12,13,16,18,19,20,22] [(4,4),(5,5),(6,6),(7,7),(8,8),(9,9)] 10 ⟨_,_,_,rfl,rfl⟩ ?_
          rintro s' _ ⟨ord_2,k,out__5,rfl,rfl⟩ y2'
          change Tl _ (yK w behind i ord_2 k out__5) _ _; unfold yK
          refine sq ?_
          refine go ?_; intro x v'
          refine go ?_
          refine sp ?_ ?_
          ·refine go ?_
           refine sq ?_
           refine go ?_
           refine rc [0,2,3,4,6,9,10,1,5,7,8,11,12,13,14,15] ?_
           refine go ?_; intro x_1 v'
           refine go ?_; intro l_2 v'
           refine go ?_
           exact bk [3,6,9,12,13,16,18,19,20,22] [(4,4),(5,5),(6,6),(7,7),(8,8),(9,9)] 10 ⟨_,_,_,rfl,rfl⟩
          ·refine go ?_
           exact je [3,6,9,12,13,16,18,19,20] [(4,4),(5,5),(6,6),(7,7),(8,8),(9,9)] 10 fun h=>⟨_,_,h,rfl⟩
        ·rintro e' ⟨ord_1,out__3,h,rfl⟩; refine tl h ?_; unfold zO6
         refine go ?_
         exact bk [3,6,9,12,13,16,18,19,20] [(4,4),(5,5),(6,6),(7,7),(8,8),(9,9)] 10 ⟨_,_,_,rfl,rfl⟩
       ·refine go ?_
        exact je [6,9,16] [(5,4),(8,5)] 6 fun h=>⟨_,h,rfl⟩
      ·rintro e' ⟨out__1,h,rfl⟩; refine tl h ?_; unfold zX2
       refine sq ?_
       refine go ?_
       refine sp ?_ ?_
       ·exact gz
       ·exact gz
end Go.TV.KFnWoven
