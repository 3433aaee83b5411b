/- Walks. -/
import Derived.Test.YtmoglghkjfjalaaGreatKFnStatsE
set_option linter.unusedVariables false
set_option linter.unusedSimpArgs false
set_option maxHeartbeats 8000000
set_option maxRecDepth 100000
namespace Go.TV.KFnStats
attribute [local irreducible] wpV opsV Does thenV blockV RetL quV seqV Cy lpP cutP cutQ
open Go.Proofs.Tryz Go.TV.F
instance W_laws_big:∀ code,Wlk X (laws_big code) 9 [] [.one (.list false 1 (List.map (rK .u8) code))] (fun r'=>[.one (.sc (.bool r'))]) (fun r'=>[]):=fun code=>by
 refine ws f9 6 [.tmp 2] (h2 t3 (h2 t22 R_u8)) ?_
 intro r'; unfold laws_big
 exact gz
instance W_spec_l01New:∀ code,Wlk X (spec_l01New code) 47 [] [.one (.list false 1 (List.map (rK .u8) code))] (fun r'=>[.one (.box true [.list false 1 (List.map (rK .u8) r'.b),.sc (.int .i64 r'.i),.sc (.int .i64 r'.h)])]) (fun r'=>[]):=fun code=>by
 refine ws f47 32 [.tmp 2] (h2 t3 (h2 t5 (h2 t22 (h2 t192 R_u8)))) ?_
 intro r'; unfold spec_l01New
 refine go ?_
 refine jn (fun e'=>∃ h,spec_l01New_j1 code h=some r'∧e'=⟨32,1,1,[(0,.pl (.one (.v (.list false 1 (List.map (rK .u8) code))))),(3,.pl (.one (.v (.sc (.int .i64 h)))))],[]⟩) ?_ ?_
 ·refine go ?_
  refine lp (fun s' e'=>∃ h_1 i,s'=(h_1,i)∧e'=⟨32,1,1,[(0,.pl (.one (.v (.list false 1 (List.map (rK .u8) code))))),(3,.pl (.one (.v (.sc (.int .i64 h_1))))),(4,.pl (.one (.v (.sc (.int .i64 i)))))],[]⟩) [0,3,4] [] 1 ⟨_,_,rfl,rfl⟩ ?_
  rintro s' _ ⟨h_1,i,rfl,rfl⟩ y1'
  change Tl _ (spec_l01New_l1 code h_1 i) _ _; unfold spec_l01New_l1
  refine sq ?_
  refine go ?_
  refine gc 3 (fun b e'=>e'=⟨32,1,1,[(0,.pl (.one (.v (.list false 1 (List.map (rK .u8) code))))),(3,.pl (.one (.v (.sc (.int .i64 h_1))))),(4,.pl (.one (.v (.sc (.int .i64 i))))),(15,.pl (.one (.v (.sc (.bool b)))))],[]⟩) ?_ ?_
  ·intro p
   refine qT ?_ ?_
   ·refine go ?_
    exact ge [0,3,4,15] [] 1 rfl
   ·refine go ?_
    exact ge [0,3,4,15] [] 1 rfl
  ·rintro b _ rfl
   refine go ?_
   refine sp ?_ ?_
   ·refine go ?_
    refine sq ?_
    refine go ?_; intro x v'
    refine go ?_
    exact bk [0,3,4] [] 1 ⟨_,_,rfl,rfl⟩
   ·refine go ?_
    exact je [0,3] [] 1 fun h=>⟨_,h,rfl⟩
 ·rintro e' ⟨h,h,rfl⟩; refine tl h ?_; unfold spec_l01New_j1
  exact gz
instance W_spec_l15Size:∀ code,Wlk X (spec_l15Size code) 50 [] [.one (.list false 1 (List.map (rK .u8) code))] (fun r'=>[.one (.sc (.int .i64 r'))]) (fun r'=>[]):=fun code=>by
 refine ws f50 11 [.tmp 2] (h2 t3 (h2 t22 R_u8)) ?_
 intro r'; unfold spec_l15Size
 refine go ?_
 refine sq ?_
 refine go ?_
 refine sp ?_ ?_
 ·exact gz
 ·exact gz
instance W_spec_l01Byte:∀ c,Wlk X (spec_l01Byte c) 114 [0] [.one (.box true [.list false 1 (List.map (rK .u8) c.b),.sc (.int .i64 c.i),.sc (.int .i64 c.h)])] (fun r'=>[.one (.sc (.int .i64 r'.1))]) (fun r'=>[(0,.box true [.list false 1 (List.map (rK .u8) r'.2.b),.sc (.int .i64 r'.2.i),.sc (.int .i64 r'.2.h)])]):=fun c=>by
 refine ws f114 58 [.tmp 2] (h2 t3 (h2 t5 (h2 t22 (h2 t192 R_u8)))) ?_
 intro r'; unfold spec_l01Byte
 refine go ?_
 refine rq ?_
 refine go ?_
 refine sq ?_
 refine go ?_
 refine rq ?_
 refine go ?_
 refine sp ?_ ?_
 ·refine go ?_
  refine rq ?_
  refine go ?_; intro x v'
  exact gz
 ·exact gz
instance W_spec_l01Below:∀ c n,Wlk X (qZ c n) 49 [0] [.one (.box true [.list false 1 (List.map (rK .u8) c.b),.sc (.int .i64 c.i),.sc (.int .i64 c.h)]),.one (.sc (.int .i64 n))] (fun r'=>[.one (.sc (.int .i64 r'.1))]) (fun r'=>[(0,.box true [.list false 1 (List.map (rK .u8) r'.2.b),.sc (.int .i64 r'.2.i),.sc (.int .i64 r'.2.h)])]):=fun c n=>by
 refine ws f49 37 [.tmp 4] (h2 t3 R_u8) ?_
 intro r'; unfold qZ
 refine go ?_
 refine sq ?_
 refine go ?_
 refine sp ?_ ?_
 ·exact gz
 ·refine go ?_
  refine sq ?_
  refine go ?_
  refine sp ?_ ?_
  ·refine go ?_; intro x14
   refine go ?_; intro u v'
   exact gz
  ·refine go ?_; intro x18
   refine go ?_; intro x20
   refine go ?_; intro x22
   refine go ?_; intro x24
   refine go ?_; intro u_1 v'
   exact gz
instance W_spec_l01Once:∀ c n,Wlk X (jH c n) 173 [0] [.one (.box true [.list false 1 (List.map (rK .u8) c.b),.sc (.int .i64 c.i),.sc (.int .i64 c.h)]),.one (.sc (.int .i64 n))] (fun r'=>[.one (.sc (.bool r'.1))]) (fun r'=>[(0,.box true [.list false 1 (List.map (rK .u8) r'.2.b),.sc (.int .i64 r'.2.i),.sc (.int .i64 r'.2.h)])]):=fun c n=>by
 refine ws f173 9 [.tmp 4] (h2 t3 R_u8) ?_
 intro r'; unfold jH
 refine go ?_; intro x7
 exact gz
instance W_spec_l05Parents:∀ c n,Wlk X (spec_l05Parents c n) 137 [0] [.one (.box true [.list false 1 (List.map (rK .u8) c.b),.sc (.int .i64 c.i),.sc (.int .i64 c.h)]),.one (.sc (.int .i64 n))] (fun r'=>[.one (.list true 1 (List.map (rK .i64) r'.1))]) (fun r'=>[(0,.box true [.list false 1 (List.map (rK .u8) r'.2.b),.sc (.int .i64 r'.2.i),.sc (.int .i64 r'.2.h)])]):=fun c n=>by
 refine ws f137 38 [.tmp 4] (h2 t3 (h2 t40 (h2 R_i64 R_u8))) ?_
 intro r'; unfold spec_l05Parents
 refine go ?_
 refine l1 ?_
 refine go ?_
 refine jn (fun e'=>∃ c_1 c_2 c_3 out_,spec_l05Parents_j1 c_1 c_2 c_3 out_=some r'∧e'=⟨38,2,3,[(5,.pl (.one (.ref 2 [])))],[(0,.box true [.list false 1 (List.map (rK .u8) c_1),.sc (.int .i64 c_2),.sc (.int .i64 c_3)]),(2,.list true 1 (List.map (rK .i64) out_))]⟩) ?_ ?_
 ·refine go ?_
  refine lp (fun s' e'=>∃ v c_4 c_5 c_6 out__1,s'=(v,c_4,c_5,c_6,out__1)∧e'=⟨38,2,3,[(0,.pl (.one (.ref 0 []))),(1,.pl (.one (.v (.sc (.int .i64 n))))),(5,.pl (.one (.ref 2 []))),(6,.pl (.one (.v (.sc (.int .i64 v)))))],[(0,.box true [.list false 1 (List.map (rK .u8) c_4),.sc (.int .i64 c_5),.sc (.int .i64 c_6)]),(2,.list true 1 (List.map (rK .i64) out__1))]⟩) [0,1,5,6] [(0,0),(3,2)] 3 ⟨_,_,_,_,_,rfl,rfl⟩ ?_
  rintro s' _ ⟨v,c_4,c_5,c_6,out__1,rfl,rfl⟩ y1'
  change Tl _ (spec_l05Parents_l1 n v c_4 c_5 c_6 out__1) _ _; unfold spec_l05Parents_l1
  refine sq ?_
  refine go ?_
  refine sp ?_ ?_
  ·refine go ?_
   refine sq ?_
   refine go ?_
   refine gc 16 (fun b e'=>e'=⟨38,2,3,[(0,.pl (.one (.ref 0 []))),(1,.pl (.one (.v (.sc (.int .i64 n))))),(5,.pl (.one (.ref 2 []))),(6,.pl (.one (.v (.sc (.int .i64 v))))),(32,.pl (.one (.v (.sc (.bool b.1)))))],[(0,.box true [.list false 1 (List.map (rK .u8) b.2.1),.sc (.int .i64 b.2.2.1),.sc (.int .i64 b.2.2.2)]),(2,.list true 1 (List.map (rK .i64) out__1))]⟩) ?_ ?_
   ·intro p
    refine qT ?_ ?_
    ·refine go ?_
     refine gc 4 (fun b_1 e'=>e'=⟨38,2,3,[(0,.pl (.one (.ref 0 []))),(1,.pl (.one (.v (.sc (.int .i64 n))))),(5,.pl (.one (.ref 2 []))),(6,.pl (.one (.v (.sc (.int .i64 v))))),(16,.pl (.one (.v (.sc (.bool true))))),(17,.pl (.one (.v (.sc (.int .i64 v))))),(18,.pl (.one (.v (.sc (.int .i64 n))))),(19,.pl (.one (.v (.sc (.int .i64 (wk .i64 (n - 1))))))),(20,.pl (.one (.v (.sc (.bool (v == (wk .i64 (n - 1)))))))),(25,.pl (.one (.v (.sc (.bool b_1.1)))))],[(0,.box true [.list false 1 (List.map (rK .u8) b_1.2.1),.sc (.int .i64 b_1.2.2.1),.sc (.int .i64 b_1.2.2.2)]),(2,.list true 1 (List.map (rK .i64) out__1))]⟩) ?_ ?_
     ·intro p
      refine qT ?_ ?_
      ·refine go ?_; intro x23
       refine go ?_
       exact ge [0,1,5,6,16,17,18,19,20,25] [(0,0),(2,2)] 3 rfl
      ·refine go ?_
       exact ge [0,1,5,6,16,17,18,19,20,25] [(0,0),(2,2)] 3 rfl
     ·rintro b_1 _ rfl
      refine go ?_
      refine gc 5 (fun b_2 e'=>e'=⟨38,2,3,[(0,.pl (.one (.ref 0 []))),(1,.pl (.one (.v (.sc (.int .i64 n))))),(5,.pl (.one (.ref 2 []))),(6,.pl (.one (.v (.sc (.int .i64 v))))),(16,.pl (.one (.v (.sc (.bool true))))),(17,.pl (.one (.v (.sc (.int .i64 v))))),(18,.pl (.one (.v (.sc (.int .i64 n))))),(19,.pl (.one (.v (.sc (.int .i64 (wk .i64 (n - 1))))))),(20,.pl (.one (.v (.sc (.bool (v == (wk .i64 (n - 1)))))))),(25,.pl (.one (.v (.sc (.bool b_1.1))))),(31,.pl (.one (.v (.sc (.bool b_2.1)))))],[(0,.box true [.list false 1 (List.map (rK .u8) b_2.2.1),.sc (.int .i64 b_2.2.2.1),.sc (.int .i64 b_2.2.2.2)]),(2,.list true 1 (List.map (rK .i64) out__1))]⟩) ?_ ?_
      ·intro p
       refine zY ?_ ?_
       ·refine go ?_
        exact ge [0,1,5,6,16,17,18,19,20,25,31] [(0,0),(2,2)] 3 rfl
       ·refine go ?_; intro x30
        refine go ?_
        exact ge [0,1,5,6,16,17,18,19,20,25,31] [(0,0),(2,2)] 3 rfl
      ·rintro b_2 _ rfl
       refine go ?_
       exact ge [0,1,5,6,32] [(0,0),(2,2)] 3 rfl
    ·refine go ?_
     exact ge [0,1,5,6,32] [(0,0),(2,2)] 3 rfl
   ·rintro b _ rfl
    refine go ?_
    refine sp ?_ ?_
    ·refine go ?_; intro l v'
     refine go ?_
     exact bk [0,1,5,6] [(0,0),(2,2)] 3 ⟨_,_,_,_,_,rfl,rfl⟩
    ·refine go ?_
     exact bk [0,1,5,6] [(0,0),(2,2)] 3 ⟨_,_,_,_,_,rfl,rfl⟩
  ·refine go ?_
   exact je [5] [(0,0),(2,2)] 3 fun h=>⟨_,_,_,_,h,rfl⟩
 ·rintro e' ⟨c_1,c_2,c_3,out_,h,rfl⟩; refine tl h ?_; unfold spec_l05Parents_j1
  exact gz
instance W_spec_l01Pick:∀ c list_,Wlk X (spec_l01Pick c list_) 139 [0] [.one (.box true [.list false 1 (List.map (rK .u8) c.b),.sc (.int .i64 c.i),.sc (.int .i64 c.h)]),.one (.list false 1 (List.map rS list_))] (fun r'=>[.one (.sc (.string r'.1))]) (fun r'=>[(0,.box true [.list false 1 (List.map (rK .u8) r'.2.b),.sc (.int .i64 r'.2.i),.sc (.int .i64 r'.2.h)])]):=fun c list_=>by
 refine ws f139 12 [.tmp 4] (h2 t9 (h2 t37 (h2 R_s R_u8))) ?_
 intro r'; unfold spec_l01Pick
 refine go ?_; intro x9
 refine go ?_; intro x v'
 exact gz
instance W_spec_l15Graphs:∀ s,Wlk X (spec_l15Graphs s) 211 [] [.agg [.list false 3 (List.map (zA false) s.Commits),.list false 2 (List.map (zB false) s.Files)]] (fun r'=>[.one (.list true 1 (List.map (rL false 1 (rL false 1 (rK .i64))) r'))]) (fun r'=>[]):=fun s=>by
 refine ws f211 23 [.tmp 2] (h2 t3 (h2 t25 (h2 t27 (h2 t33 (h2 t36 (h2 t106 (h2 R_LLi64 (h2 qX (h2 zS (h2 qK (h2 zT (h2 jJ R_i64)))))))))))) ?_
 intro r'; unfold spec_l15Graphs
 refine go ?_
 refine l1 ?_
 refine go ?_
 refine jn (fun e'=>∃ out_,spec_l15Graphs_j1 out_=some r'∧e'=⟨23,2,3,[(3,.pl (.one (.ref 2 [])))],[(2,.list true 1 (List.map (rL false 1 (rL false 1 (rK .i64))) out_))]⟩) ?_ ?_
 ·refine go ?_
  refine lp (fun s' e'=>∃ i out__1,s'=(i,out__1)∧e'=⟨23,2,4,[(1,.pl (.one (.ref 2 []))),(3,.pl (.one (.ref 3 []))),(4,.pl (.one (.v (.sc (.int .i64 i)))))],[(2,.box true [.list false 3 (List.map (zA false) s.Commits),.list false 2 (List.map (zB false) s.Files)]),(3,.list true 1 (List.map (rL false 1 (rL false 1 (rK .i64))) out__1))]⟩) [1,3,4] [(2,2),(4,3)] 4 ⟨_,_,rfl,rfl⟩ ?_
  rintro s' _ ⟨i,out__1,rfl,rfl⟩ y1'
  change Tl _ (spec_l15Graphs_l1 s i out__1) _ _; unfold spec_l15Graphs_l1
  refine sq ?_
  refine go ?_
  refine sp ?_ ?_
  ·refine go ?_
   refine sq ?_
   refine go ?_; intro x v'
   refine go ?_; intro l v'
   refine go ?_
   exact bk [1,3,4] [(2,2),(3,3)] 4 ⟨_,_,rfl,rfl⟩
  ·refine go ?_
   exact je [3] [(3,2)] 3 fun h=>⟨_,h,rfl⟩
 ·rintro e' ⟨out_,h,rfl⟩; refine tl h ?_; unfold spec_l15Graphs_j1
  exact gz
instance W_spec_l13Id:∀ list_ id,Wlk X (spec_l13Id list_ id) 164 [] [.one (.list false 3 (List.map (zD true) list_)),.one (.sc (.int .i64 id))] (fun r'=>[.one (.sc (.int .i64 r'))]) (fun r'=>[]):=fun list_ id=>by
 refine ws f164 20 [.tmp 4] (h2 t3 (h2 t41 (h2 t45 zT))) ?_
 intro r'; unfold spec_l13Id
 refine go ?_
 refine jn (fun e'=>spec_l13Id_j1=some r'∧e'=⟨20,2,2,[],[]⟩) ?_ ?_
 ·refine go ?_
  refine lp (fun i e'=>e'=⟨20,2,2,[(0,.pl (.one (.v (.list false 3 (List.map (zD true) list_))))),(1,.pl (.one (.v (.sc (.int .i64 id))))),(5,.pl (.one (.v (.sc (.int .i64 i)))))],[]⟩) [0,1,5] [] 2 rfl ?_
  rintro i _ rfl y1'
  change Tl _ (spec_l13Id_l1 list_ id i) _ _; unfold spec_l13Id_l1
  refine sq ?_
  refine go ?_
  refine sp ?_ ?_
  ·refine go ?_
   refine sq ?_
   refine go ?_; intro x v'
   refine go ?_
   refine sp ?_ ?_
   ·exact gz
   ·refine go ?_
    exact bk [0,1,5] [] 2 rfl
  ·refine go ?_
   exact je [] [] 2 fun h=>⟨h,rfl⟩
 ·rintro e' ⟨h,rfl⟩; refine tl h ?_; unfold spec_l13Id_j1
  exact gz
instance W_spec_l07Without:∀ list_ x,Wlk X (spec_l07Without list_ x) 203 [] [.one (.list false 1 (List.map (rK .i64) list_)),.one (.sc (.int .i64 x))] (fun r'=>[.one (.list true 1 (List.map (rK .i64) r'))]) (fun r'=>[]):=fun list_ x=>by
 refine ws f203 28 [.tmp 4] (h2 t3 (h2 t40 R_i64)) ?_
 intro r'; unfold spec_l07Without
 refine go ?_
 refine l1 ?_
 refine go ?_
 refine jn (fun e'=>∃ out_,spec_l07Without_j1 out_=some r'∧e'=⟨28,2,3,[(5,.pl (.one (.ref 2 [])))],[(2,.list true 1 (List.map (rK .i64) out_))]⟩) ?_ ?_
 ·refine go ?_
  refine lp (fun s' e'=>∃ i out__1,s'=(i,out__1)∧e'=⟨28,2,3,[(0,.pl (.one (.v (.list false 1 (List.map (rK .i64) list_))))),(1,.pl (.one (.v (.sc (.int .i64 x))))),(5,.pl (.one (.ref 2 []))),(6,.pl (.one (.v (.sc (.int .i64 i)))))],[(2,.list true 1 (List.map (rK .i64) out__1))]⟩) [0,1,5,6] [(3,2)] 3 ⟨_,_,rfl,rfl⟩ ?_
  rintro s' _ ⟨i,out__1,rfl,rfl⟩ y1'
  change Tl _ (jV list_ x i out__1) _ _; unfold jV
  refine sq ?_
  refine go ?_
  refine sp ?_ ?_
  ·refine go ?_
   refine sq ?_
   refine go ?_; intro x_1 v'
   refine go ?_
   refine sp ?_ ?_
   ·refine go ?_; intro l v'
    refine go ?_
    exact bk [0,1,5,6] [(2,2)] 3 ⟨_,_,rfl,rfl⟩
   ·refine go ?_
    exact bk [0,1,5,6] [(2,2)] 3 ⟨_,_,rfl,rfl⟩
  ·refine go ?_
   exact je [5] [(2,2)] 3 fun h=>⟨_,h,rfl⟩
 ·rintro e' ⟨out_,h,rfl⟩; refine tl h ?_; unfold spec_l07Without_j1
  exact gz
instance W_spec_l07With:∀ list_ x,Wlk X (spec_l07With list_ x) 202 [] [.one (.list false 1 (List.map (rK .i64) list_)),.one (.sc (.int .i64 x))] (fun r'=>[.one (.list true 1 (List.map (rK .i64) r'))]) (fun r'=>[]):=fun list_ x=>by
 refine ws f202 52 [.tmp 4] (h2 t3 (h2 t40 R_i64)) ?_
 intro r'; unfold spec_l07With
 refine go ?_
 refine l1 ?_
 refine go ?_
 refine jn (fun e'=>∃ out_,spec_l07With_j1 list_ x out_=some r'∧e'=⟨52,2,3,[(0,.pl (.one (.v (.list false 1 (List.map (rK .i64) list_))))),(1,.pl (.one (.v (.sc (.int .i64 x))))),(5,.pl (.one (.ref 2 [])))],[(2,.list true 1 (List.map (rK .i64) out_))]⟩) ?_ ?_
 ·refine go ?_
  refine lp (fun s' e'=>∃ i_1 out__3,s'=(i_1,out__3)∧e'=⟨52,2,3,[(0,.pl (.one (.v (.list false 1 (List.map (rK .i64) list_))))),(1,.pl (.one (.v (.sc (.int .i64 x))))),(5,.pl (.one (.ref 2 []))),(6,.pl (.one (.v (.sc (.int .i64 i_1)))))],[(2,.list true 1 (List.map (rK .i64) out__3))]⟩) [0,1,5,6] [(3,2)] 3 ⟨_,_,rfl,rfl⟩ ?_
  rintro s' _ ⟨i_1,out__3,rfl,rfl⟩ y1'
  change Tl _ (spec_l07With_l2 list_ x i_1 out__3) _ _; unfold spec_l07With_l2
  refine sq ?_
  refine go ?_
  refine sp ?_ ?_
  ·refine go ?_
   refine sq ?_
   refine go ?_; intro x_2 v'
   refine go ?_
   refine sp ?_ ?_
   ·refine go ?_; intro l_2 v'
    refine go ?_
    exact bk [0,1,5,6] [(2,2)] 3 ⟨_,_,rfl,rfl⟩
   ·refine go ?_
    exact bk [0,1,5,6] [(2,2)] 3 ⟨_,_,rfl,rfl⟩
  ·refine go ?_
   exact je [0,1,5] [(2,2)] 3 fun h=>⟨_,h,rfl⟩
 ·rintro e' ⟨out_,h,rfl⟩; refine tl h ?_; unfold spec_l07With_j1
  refine go ?_; intro l v'
  refine go ?_
  refine jn (fun e'=>∃ out__1,spec_l07With_j2 out__1=some r'∧e'=⟨52,2,3,[(5,.pl (.one (.ref 2 [])))],[(2,.list true 1 (List.map (rK .i64) out__1))]⟩) ?_ ?_
  ·refine go ?_
   refine lp (fun s' e'=>∃ i out__2,s'=(i,out__2)∧e'=⟨52,2,3,[(0,.pl (.one (.v (.list false 1 (List.map (rK .i64) list_))))),(1,.pl (.one (.v (.sc (.int .i64 x))))),(5,.pl (.one (.ref 2 []))),(7,.pl (.one (.v (.sc (.int .i64 i)))))],[(2,.list true 1 (List.map (rK .i64) out__2))]⟩) [0,1,5,7] [(2,2)] 3 ⟨_,_,rfl,rfl⟩ ?_
   rintro s' _ ⟨i,out__2,rfl,rfl⟩ y1'
   change Tl _ (spec_l07With_l1 list_ x i out__2) _ _; unfold spec_l07With_l1
   refine sq ?_
   refine go ?_
   refine sp ?_ ?_
   ·refine go ?_
    refine sq ?_
    refine go ?_; intro x_1 v'
    refine go ?_
    refine sp ?_ ?_
    ·refine go ?_; intro l_1 v'
     refine go ?_
     exact bk [0,1,5,7] [(2,2)] 3 ⟨_,_,rfl,rfl⟩
    ·refine go ?_
     exact bk [0,1,5,7] [(2,2)] 3 ⟨_,_,rfl,rfl⟩
   ·refine go ?_
    exact je [5] [(2,2)] 3 fun h=>⟨_,h,rfl⟩
  ·rintro e' ⟨out__1,h,rfl⟩; refine tl h ?_; unfold spec_l07With_j2
   exact gz
instance W_spec_l14Of:∀ list_ parents id,Wlk X (spec_l14Of list_ parents id) 214 [] [.one (.list false 3 (List.map (zA false) list_)),.one (.list false 1 (List.map (rK .i64) parents)),.one (.sc (.int .i64 id))] (fun r'=>[.one (.list true 1 (List.map (rK .i64) r'))]) (fun r'=>[]):=fun list_ parents id=>by
 refine ws f214 57 [.tmp 6] (h2 t3 (h2 t24 (h2 t40 (h2 t41 (h2 t43 (h2 t45 (h2 qK (h2 zT R_i64)))))))) ?_
 intro r'; unfold spec_l14Of
 refine go ?_
 refine l1 ?_
 refine go ?_
 refine jn (fun e'=>∃ out_,spec_l14Of_j1 out_=some r'∧e'=⟨57,3,4,[(7,.pl (.one (.ref 3 [])))],[(3,.list true 1 (List.map (rK .i64) out_))]⟩) ?_ ?_
 ·refine go ?_
  refine lp (fun s' e'=>∃ i out__1,s'=(i,out__1)∧e'=⟨57,3,4,[(0,.pl (.one (.v (.list false 3 (List.map (zA false) list_))))),(1,.pl (.one (.v (.list false 1 (List.map (rK .i64) parents))))),(2,.pl (.one (.v (.sc (.int .i64 id))))),(7,.pl (.one (.ref 3 []))),(8,.pl (.one (.v (.sc (.int .i64 i)))))],[(3,.list true 1 (List.map (rK .i64) out__1))]⟩) [0,1,2,7,8] [(4,3)] 4 ⟨_,_,rfl,rfl⟩ ?_
  rintro s' _ ⟨i,out__1,rfl,rfl⟩ y1'
  change Tl _ (spec_l14Of_l1 list_ parents id i out__1) _ _; unfold spec_l14Of_l1
  refine sq ?_
  refine go ?_
  refine sp ?_ ?_
  ·refine go ?_
   refine sq ?_
   refine go ?_; intro x v'
   refine go ?_; intro x_1 v'
   refine go ?_; intro x26
   refine go ?_
   refine sp ?_ ?_
   ·refine rc [0,1,2,3,4,9,14,15,16,17,22,5,6,7,8,10,11,12,13,18,19,20,21,23,24,25,26,27] ?_
    refine go ?_; intro x_2 v'
    refine go ?_; intro x42
    refine go ?_; intro x55
    refine go ?_
    exact bk [0,1,2,7,8] [(6,3)] 4 ⟨_,_,rfl,rfl⟩
   ·refine go ?_
    exact bk [0,1,2,7,8] [(3,3)] 4 ⟨_,_,rfl,rfl⟩
  ·refine go ?_
   exact je [7] [(3,3)] 4 fun h=>⟨_,h,rfl⟩
 ·rintro e' ⟨out_,h,rfl⟩; refine tl h ?_; unfold spec_l14Of_j1
  exact gz
instance W_spec_l01In:∀ x least most,Wlk X (spec_l01In x least most) 103 [] [.one (.sc (.int .i64 x)),.one (.sc (.int .i64 least)),.one (.sc (.int .i64 most))] (fun r'=>[.one (.sc (.bool r'))]) (fun r'=>[]):=fun x least most=>by
 refine ws f103 15 [.tmp 6] t3 ?_
 intro r'; unfold spec_l01In
 refine go ?_
 refine gc 4 (fun b e'=>e'=⟨15,3,3,[(14,.pl (.one (.v (.sc (.bool b)))))],[]⟩) ?_ ?_
 ·intro p
  refine qT ?_ ?_
  ·refine go ?_
   exact ge [14] [] 3 rfl
  ·refine go ?_
   exact ge [14] [] 3 rfl
 ·rintro b _ rfl
  exact gz
instance W_spec_l05Set:∀ parents list_,Wlk X (spec_l05Set parents list_) 144 [] [.one (.list false 1 (List.map (rL false 1 (rK .i64)) parents)),.one (.list false 1 (List.map (rK .i64) list_))] (fun r'=>[.one (.list true 1 (List.map rB r'))]) (fun r'=>[]):=fun parents list_=>by
 refine ws f144 64 [.tmp 4] (h2 t3 (h2 t4 (h2 t33 (h2 t40 (h2 t202 (h2 qX (h2 R_b R_i64))))))) ?_
 intro r'; unfold spec_l05Set
 refine go ?_
 refine l1 ?_
 refine go ?_; intro x11 v'
 refine go ?_
 refine jn (fun e'=>∃ in_,spec_l05Set_j1 parents in_=some r'∧e'=⟨64,2,3,[(0,.pl (.one (.v (.list false 1 (List.map (rL false 1 (rK .i64)) parents))))),(5,.pl (.one (.ref 2 [])))],[(2,.list true 1 (List.map rB in_))]⟩) ?_ ?_
 ·refine go ?_
  refine lp (fun s' e'=>∃ i in__5,s'=(i,in__5)∧e'=⟨64,2,3,[(0,.pl (.one (.v (.list false 1 (List.map (rL false 1 (rK .i64)) parents))))),(1,.pl (.one (.v (.list false 1 (List.map (rK .i64) list_))))),(5,.pl (.one (.ref 2 []))),(6,.pl (.one (.v (.sc (.int .i64 i)))))],[(2,.list true 1 (List.map rB in__5))]⟩) [0,1,5,6] [(3,2)] 3 ⟨_,_,rfl,rfl⟩ ?_
  rintro s' _ ⟨i,in__5,rfl,rfl⟩ y1'
  change Tl _ (spec_l05Set_l3 parents list_ i in__5) _ _; unfold spec_l05Set_l3
  refine sq ?_
  refine go ?_
  refine sp ?_ ?_
  ·refine go ?_
   refine sq ?_
   refine go ?_; intro x_5 v'
   refine go ?_; intro x25
   refine go ?_
   refine sp ?_ ?_
   ·refine go ?_; intro x_6 v'
    refine go ?_
    exact bk [0,1,5,6] [(2,2)] 3 ⟨_,_,rfl,rfl⟩
   ·refine go ?_
    exact bk [0,1,5,6] [(2,2)] 3 ⟨_,_,rfl,rfl⟩
  ·refine go ?_
   exact je [0,5] [(2,2)] 3 fun h=>⟨_,h,rfl⟩
 ·rintro e' ⟨in_,h,rfl⟩; refine tl h ?_; unfold spec_l05Set_j1
  refine jn (fun e'=>∃ in__1,spec_l05Set_j2 in__1=some r'∧e'=⟨64,2,3,[(5,.pl (.one (.ref 2 [])))],[(2,.list true 1 (List.map rB in__1))]⟩) ?_ ?_
  ·refine go ?_
   refine lp (fun s' e'=>∃ v in__2,s'=(v,in__2)∧e'=⟨64,2,3,[(0,.pl (.one (.v (.list false 1 (List.map (rL false 1 (rK .i64)) parents))))),(5,.pl (.one (.ref 2 []))),(7,.pl (.one (.v (.sc (.int .i64 v)))))],[(2,.list true 1 (List.map rB in__2))]⟩) [0,5,7] [(2,2)] 3 ⟨_,_,rfl,rfl⟩ ?_
   rintro s' _ ⟨v,in__2,rfl,rfl⟩ y1'
   change Tl _ (spec_l05Set_l1 parents v in__2) _ _; unfold spec_l05Set_l1
   refine sq ?_
   refine go ?_
   refine sp ?_ ?_
   ·refine go ?_
    refine jn (fun e'=>∃ in__3,spec_l05Set_j3 v in__3=some y1'∧e'=⟨64,2,3,[(0,.pl (.one (.v (.list false 1 (List.map (rL false 1 (rK .i64)) parents))))),(5,.pl (.one (.ref 2 []))),(7,.pl (.one (.v (.sc (.int .i64 v)))))],[(2,.list true 1 (List.map rB in__3))]⟩) ?_ ?_
    ·refine go ?_
     refine lp (fun s' e'=>∃ k in__4,s'=(k,in__4)∧e'=⟨64,2,3,[(0,.pl (.one (.v (.list false 1 (List.map (rL false 1 (rK .i64)) parents))))),(5,.pl (.one (.ref 2 []))),(7,.pl (.one (.v (.sc (.int .i64 v))))),(8,.pl (.one (.v (.sc (.int .i64 k)))))],[(2,.list true 1 (List.map rB in__4))]⟩) [0,5,7,8] [(2,2)] 3 ⟨_,_,rfl,rfl⟩ ?_
     rintro s' _ ⟨k,in__4,rfl,rfl⟩ y2'
     change Tl _ (spec_l05Set_l2 parents v k in__4) _ _; unfold spec_l05Set_l2
     refine sq ?_
     refine go ?_; intro x v'
     refine go ?_
     refine gc 5 (fun b e'=>e'=⟨64,2,3,[(0,.pl (.one (.v (.list false 1 (List.map (rL false 1 (rK .i64)) parents))))),(5,.pl (.one (.ref 2 []))),(7,.pl (.one (.v (.sc (.int .i64 v))))),(8,.pl (.one (.v (.sc (.int .i64 k))))),(51,.pl (.one (.v (.sc (.bool b)))))],[(2,.list true 1 (List.map rB in__4))]⟩) ?_ ?_
     ·intro p
      refine qT ?_ ?_
      ·refine go ?_; intro x_1 v'
       refine go ?_
       exact ge [0,5,7,8,51] [(2,2)] 3 rfl
      ·refine go ?_
       exact ge [0,5,7,8,51] [(2,2)] 3 rfl
     ·rintro b _ rfl
      refine go ?_
      refine sp ?_ ?_
      ·refine go ?_
       refine sq ?_
       refine go ?_; intro x_2 v'
       refine go ?_; intro x_3 v'
       refine go ?_; intro x_4 v'
       refine go ?_
       exact bk [0,5,7,8] [(2,2)] 3 ⟨_,_,rfl,rfl⟩
      ·refine go ?_
       exact je [0,5,7] [(2,2)] 3 fun h=>⟨_,h,rfl⟩
    ·rintro e' ⟨in__3,h,rfl⟩; refine tl h ?_; unfold spec_l05Set_j3
     refine go ?_
     exact bk [0,5,7] [(2,2)] 3 ⟨_,_,rfl,rfl⟩
   ·refine go ?_
    exact je [5] [(2,2)] 3 fun h=>⟨_,h,rfl⟩
  ·rintro e' ⟨in__1,h,rfl⟩; refine tl h ?_; unfold spec_l05Set_j2
   exact gz
instance W_spec_l13Path:∀ list_ path,Wlk X (spec_l13Path list_ path) 161 [] [.one (.list false 3 (List.map (zD true) list_)),.one (.sc (.string path))] (fun r'=>[.one (.sc (.int .i64 r'))]) (fun r'=>[]):=fun list_ path=>by
 refine ws f161 20 [.tmp 4] (h2 t3 (h2 t9 (h2 t41 (h2 t45 zT)))) ?_
 intro r'; unfold spec_l13Path
 refine go ?_
 refine jn (fun e'=>spec_l13Path_j1=some r'∧e'=⟨20,2,2,[],[]⟩) ?_ ?_
 ·refine go ?_
  refine lp (fun i e'=>e'=⟨20,2,2,[(0,.pl (.one (.v (.list false 3 (List.map (zD true) list_))))),(1,.pl (.one (.v (.sc (.string path))))),(5,.pl (.one (.v (.sc (.int .i64 i)))))],[]⟩) [0,1,5] [] 2 rfl ?_
  rintro i _ rfl y1'
  change Tl _ (spec_l13Path_l1 list_ path i) _ _; unfold spec_l13Path_l1
  refine sq ?_
  refine go ?_
  refine sp ?_ ?_
  ·refine go ?_
   refine sq ?_
   refine go ?_; intro x v'
   refine go ?_
   refine sp ?_ ?_
   ·exact gz
   ·refine go ?_
    exact bk [0,1,5] [] 2 rfl
  ·refine go ?_
   exact je [] [] 2 fun h=>⟨h,rfl⟩
 ·rintro e' ⟨h,rfl⟩; refine tl h ?_; unfold spec_l13Path_j1
  exact gz
instance W_spec_l13Put:∀ list_ n,Wlk X (spec_l13Put list_ n) 247 [] [.one (.list false 3 (List.map (zD true) list_)),.agg [.sc (.string n.Path),.sc (.int .i64 n.Id),.sc (.int .i64 n.Version)]] (fun r'=>[.one (.list true 3 (List.map (zD true) r'))]) (fun r'=>[]):=fun list_ n=>by
 refine ws f247 53 [.tmp 4] (h2 t3 (h2 t9 (h2 t41 (h2 t45 zT)))) ?_
 intro r'; unfold spec_l13Put
 refine go ?_
 refine lf ?_ (fun a g=>opsV_nilA a 3 g)
 refine go ?_
 refine jn (fun e'=>∃ done out_,spec_l13Put_j1 n done out_=some r'∧e'=⟨53,4,6,[(3,.pl (.one (.ref 4 []))),(5,.pl (.one (.ref 5 []))),(6,.pl (.one (.v (.sc (.bool done)))))],[(4,.box true [.sc (.string n.Path),.sc (.int .i64 n.Id),.sc (.int .i64 n.Version)]),(5,.list true 3 (List.map (zD true) out_))]⟩) ?_ ?_
 ·refine go ?_
  refine lp (fun s' e'=>∃ done_1 i out__1,s'=(done_1,i,out__1)∧e'=⟨53,4,6,[(0,.pl (.one (.v (.list false 3 (List.map (zD true) list_))))),(3,.pl (.one (.ref 4 []))),(5,.pl (.one (.ref 5 []))),(6,.pl (.one (.v (.sc (.bool done_1))))),(7,.pl (.one (.v (.sc (.int .i64 i)))))],[(4,.box true [.sc (.string n.Path),.sc (.int .i64 n.Id),.sc (.int .i64 n.Version)]),(5,.list true 3 (List.map (zD true) out__1))]⟩) [0,3,5,6,7] [(4,4),(6,5)] 6 ⟨_,_,_,rfl,rfl⟩ ?_
  rintro s' _ ⟨done_1,i,out__1,rfl,rfl⟩ y1'
  change Tl _ (spec_l13Put_l1 list_ n done_1 i out__1) _ _; unfold spec_l13Put_l1
  refine sq ?_
  refine go ?_
  refine sp ?_ ?_
  ·refine go ?_
   refine sq ?_
   refine go ?_
   refine sq ?_
   refine go ?_
   refine rq ?_
   refine go ?_; intro x v'
   refine go ?_
   refine sp ?_ ?_
   ·refine go ?_
    exact bk [0,3,5,6,7] [(4,4),(5,5)] 6 ⟨_,_,_,rfl,rfl⟩
   ·refine go ?_
    refine jn (fun e'=>∃ done_2 out__2,spec_l13Put_j2 list_ i done_2 out__2=some y1'∧e'=⟨53,4,6,[(0,.pl (.one (.v (.list false 3 (List.map (zD true) list_))))),(3,.pl (.one (.ref 4 []))),(5,.pl (.one (.ref 5 []))),(6,.pl (.one (.v (.sc (.bool done_2))))),(7,.pl (.one (.v (.sc (.int .i64 i)))))],[(4,.box true [.sc (.string n.Path),.sc (.int .i64 n.Id),.sc (.int .i64 n.Version)]),(5,.list true 3 (List.map (zD true) out__2))]⟩) ?_ ?_
    ·refine go ?_
     refine rq ?_
     refine go ?_
     refine qc 9 (fun b e'=>e'=⟨53,4,6,[(0,.pl (.one (.v (.list false 3 (List.map (zD true) list_))))),(3,.pl (.one (.ref 4 []))),(5,.pl (.one (.ref 5 []))),(6,.pl (.one (.v (.sc (.bool done_1))))),(7,.pl (.one (.v (.sc (.int .i64 i))))),(34,.pl (.one (.v (.sc (.bool b)))))],[(4,.box true [.sc (.string n.Path),.sc (.int .i64 n.Id),.sc (.int .i64 n.Version)]),(5,.list true 3 (List.map (zD true) out__1))]⟩) ?_ ?_
     ·intro p
      refine quV_spL ?_ ?_
      ·refine go ?_
       exact ge [0,3,5,6,7,34] [(4,4),(5,5)] 6 rfl
      ·refine go ?_
       exact ge [0,3,5,6,7,34] [(4,4),(5,5)] 6 rfl
     ·rintro b _ rfl
      refine go ?_
      refine sp ?_ ?_
      ·refine go ?_; intro l_2 v'
       refine go ?_
       exact je [0,3,5,6,7] [(4,4),(5,5)] 6 fun h=>⟨_,_,h,rfl⟩
      ·refine go ?_
       exact je [0,3,5,6,7] [(4,4),(5,5)] 6 fun h=>⟨_,_,h,rfl⟩
    ·rintro e' ⟨done_2,out__2,h,rfl⟩; refine tl h ?_; unfold spec_l13Put_j2
     refine go ?_; intro x_1 v'
     refine go ?_; intro l_1 v'
     refine go ?_
     exact bk [0,3,5,6,7] [(4,4),(5,5)] 6 ⟨_,_,_,rfl,rfl⟩
  ·refine go ?_
   exact je [3,5,6] [(4,4),(5,5)] 6 fun h=>⟨_,_,h,rfl⟩
 ·rintro e' ⟨done,out_,h,rfl⟩; refine tl h ?_; unfold spec_l13Put_j1
  refine sq ?_
  refine go ?_
  refine sp ?_ ?_
  ·refine go ?_; intro l v'
   exact gz
  ·exact gz
instance W_spec_l14Base:∀ list_ files parents,Wlk X (spec_l14Base list_ files parents) 210 [] [.one (.list false 3 (List.map (zA false) list_)),.one (.list false 1 (List.map (rL false 1 (rL false 1 (rK .i64))) files)),.one (.list false 1 (List.map (rK .i64) parents))] (fun r'=>[.one (.list true 3 (List.map (zD true) r'.1)),.one (.list true 1 (List.map (rK .i64) r'.2.1)),.one (.sc (.int .i64 r'.2.2))]) (fun r'=>[]):=fun list_ files parents=>by
 refine ws f210 111 [.tmp 6,.tmp 7,.tmp 8] (h2 t3 (h2 t4 (h2 t9 (h2 t24 (h2 t33 (h2 t40 (h2 t41 (h2 t43 (h2 t45 (h2 t106 (h2 t202 (h2 R_LLi64 (h2 qX (h2 qK (h2 zT (h2 R_b R_i64)))))))))))))))) ?_
 intro r'; unfold spec_l14Base
 refine go ?_
 refine lf ?_ (fun a g=>opsV_nilA a 3 g)
 refine go ?_
 refine l1 ?_
 refine go ?_
 refine jn (fun e'=>∃ names open_,spec_l14Base_j1 names open_=some r'∧e'=⟨111,3,5,[(9,.pl (.one (.ref 3 []))),(10,.pl (.one (.ref 4 [])))],[(3,.list true 3 (List.map (zD true) names)),(4,.list true 1 (List.map (rK .i64) open_))]⟩) ?_ ?_
 ·refine go ?_
  refine lp (fun s' e'=>∃ id names_1 open__1,s'=(id,names_1,open__1)∧e'=⟨111,3,5,[(0,.pl (.one (.v (.list false 3 (List.map (zA false) list_))))),(1,.pl (.one (.v (.list false 1 (List.map (rL false 1 (rL false 1 (rK .i64))) files))))),(2,.pl (.one (.v (.list false 1 (List.map (rK .i64) parents))))),(9,.pl (.one (.ref 3 []))),(10,.pl (.one (.ref 4 []))),(11,.pl (.one (.v (.sc (.int .i64 id)))))],[(3,.list true 3 (List.map (zD true) names_1)),(4,.list true 1 (List.map (rK .i64) open__1))]⟩) [0,1,2,9,10,11] [(5,3),(6,4)] 5 ⟨_,_,_,rfl,rfl⟩ ?_
  rintro s' _ ⟨id,names_1,open__1,rfl,rfl⟩ y1'
  change Tl _ (spec_l14Base_l1 list_ files parents id names_1 open__1) _ _; unfold spec_l14Base_l1
  refine sq ?_
  refine go ?_
  refine sp ?_ ?_
  ·refine go ?_
   refine jn (fun e'=>∃ names_2 open__2,spec_l14Base_j2 id names_2 open__2=some y1'∧e'=⟨111,3,5,[(0,.pl (.one (.v (.list false 3 (List.map (zA false) list_))))),(1,.pl (.one (.v (.list false 1 (List.map (rL false 1 (rL false 1 (rK .i64))) files))))),(2,.pl (.one (.v (.list false 1 (List.map (rK .i64) parents))))),(9,.pl (.one (.ref 3 []))),(10,.pl (.one (.ref 4 []))),(11,.pl (.one (.v (.sc (.int .i64 id)))))],[(3,.list true 3 (List.map (zD true) names_2)),(4,.list true 1 (List.map (rK .i64) open__2))]⟩) ?_ ?_
   ·refine go ?_; intro x30
    refine go ?_
    refine sq ?_
    refine go ?_
    refine sp ?_ ?_
    ·refine go ?_
     exact je [0,1,2,9,10,11] [(3,3),(4,4)] 5 fun h=>⟨_,_,h,rfl⟩
    ·refine go ?_
     refine jn (fun e'=>∃ path,spec_l14Base_j3 files id names_1 open__1 x30 path=some y1'∧e'=⟨111,3,6,[(0,.pl (.one (.v (.list false 3 (List.map (zA false) list_))))),(1,.pl (.one (.v (.list false 1 (List.map (rL false 1 (rL false 1 (rK .i64))) files))))),(2,.pl (.one (.v (.list false 1 (List.map (rK .i64) parents))))),(9,.pl (.one (.ref 3 []))),(10,.pl (.one (.ref 4 []))),(11,.pl (.one (.v (.sc (.int .i64 id))))),(12,.pl (.one (.ref 5 []))),(13,.pl (.one (.v (.sc (.string path)))))],[(3,.list true 3 (List.map (zD true) names_1)),(4,.list true 1 (List.map (rK .i64) open__1)),(5,.list true 1 (List.map (rK .i64) x30))]⟩) ?_ ?_
     ·refine go ?_
      refine lp (fun s' e'=>∃ path_1 i,s'=(path_1,i)∧e'=⟨111,3,6,[(0,.pl (.one (.v (.list false 3 (List.map (zA false) list_))))),(1,.pl (.one (.v (.list false 1 (List.map (rL false 1 (rL false 1 (rK .i64))) files))))),(2,.pl (.one (.v (.list false 1 (List.map (rK .i64) parents))))),(9,.pl (.one (.ref 3 []))),(10,.pl (.one (.ref 4 []))),(11,.pl (.one (.v (.sc (.int .i64 id))))),(12,.pl (.one (.ref 5 []))),(13,.pl (.one (.v (.sc (.string path_1))))),(14,.pl (.one (.v (.sc (.int .i64 i)))))],[(3,.list true 3 (List.map (zD true) names_1)),(4,.list true 1 (List.map (rK .i64) open__1)),(5,.list true 1 (List.map (rK .i64) x30))]⟩) [0,1,2,9,10,11,12,13,14] [(3,3),(4,4),(5,5)] 6 ⟨_,_,rfl,rfl⟩ ?_
      rintro s' _ ⟨path_1,i,rfl,rfl⟩ y2'
      change Tl _ (spec_l14Base_l3 list_ parents id path_1 i) _ _; unfold spec_l14Base_l3
      refine sq ?_
      refine go ?_
      refine sp ?_ ?_
      ·refine go ?_
       refine sq ?_
       refine go ?_; intro x_4 v'
       refine go ?_; intro x_5 v'
       refine go ?_; intro x50
       refine go ?_
       refine sp ?_ ?_
       ·refine go ?_; intro x_6 v'
        refine go ?_
        exact bk [0,1,2,9,10,11,12,13,14] [(3,3),(4,4),(5,5)] 6 ⟨_,_,rfl,rfl⟩
       ·refine go ?_
        exact bk [0,1,2,9,10,11,12,13,14] [(3,3),(4,4),(5,5)] 6 ⟨_,_,rfl,rfl⟩
      ·refine go ?_
       exact je [0,1,2,9,10,11,12,13] [(3,3),(4,4),(5,5)] 6 fun h=>⟨_,h,rfl⟩
     ·rintro e' ⟨path,h,rfl⟩; refine tl h ?_; unfold spec_l14Base_j3
      refine go ?_; intro x v'
      refine go ?_; intro x_1 v'
      refine go ?_; intro x77
      refine go ?_
      refine jn (fun e'=>∃ open__3,spec_l14Base_j4 id names_1 path x open__3=some y1'∧e'=⟨111,3,5,[(0,.pl (.one (.v (.list false 3 (List.map (zA false) list_))))),(1,.pl (.one (.v (.list false 1 (List.map (rL false 1 (rL false 1 (rK .i64))) files))))),(2,.pl (.one (.v (.list false 1 (List.map (rK .i64) parents))))),(9,.pl (.one (.ref 3 []))),(10,.pl (.one (.ref 4 []))),(11,.pl (.one (.v (.sc (.int .i64 id))))),(13,.pl (.one (.v (.sc (.string path))))),(16,.pl (.one (.v (.sc (.int .i64 x)))))],[(3,.list true 3 (List.map (zD true) names_1)),(4,.list true 1 (List.map (rK .i64) open__3))]⟩) ?_ ?_
      ·refine go ?_
       refine lp (fun s' e'=>∃ k open__4,s'=(k,open__4)∧e'=⟨111,3,7,[(0,.pl (.one (.v (.list false 3 (List.map (zA false) list_))))),(1,.pl (.one (.v (.list false 1 (List.map (rL false 1 (rL false 1 (rK .i64))) files))))),(2,.pl (.one (.v (.list false 1 (List.map (rK .i64) parents))))),(9,.pl (.one (.ref 3 []))),(10,.pl (.one (.ref 4 []))),(11,.pl (.one (.v (.sc (.int .i64 id))))),(12,.pl (.one (.ref 5 []))),(13,.pl (.one (.v (.sc (.string path))))),(16,.pl (.one (.v (.sc (.int .i64 x))))),(17,.pl (.one (.ref 6 []))),(18,.pl (.one (.v (.sc (.int .i64 k)))))],[(3,.list true 3 (List.map (zD true) names_1)),(4,.list true 1 (List.map (rK .i64) open__4)),(5,.list true 1 (List.map (rK .i64) x30)),(6,.list true 1 (List.map rB x77))]⟩) [0,1,2,9,10,11,12,13,16,17,18] [(3,3),(4,4),(5,5),(7,6)] 7 ⟨_,_,rfl,rfl⟩ ?_
       rintro s' _ ⟨k,open__4,rfl,rfl⟩ y2'
       change Tl _ (spec_l14Base_l2 id x30 x77 k open__4) _ _; unfold spec_l14Base_l2
       refine sq ?_
       refine go ?_
       refine sp ?_ ?_
       ·refine go ?_
        refine sq ?_
        refine go ?_; intro x_2 v'
        refine go ?_; intro x_3 v'
        refine go ?_
        refine sp ?_ ?_
        ·refine go ?_; intro x94
         refine go ?_; intro x96
         refine go ?_
         exact bk [0,1,2,9,10,11,12,13,16,17,18] [(3,3),(8,4),(5,5),(6,6)] 7 ⟨_,_,rfl,rfl⟩
        ·refine go ?_
         exact bk [0,1,2,9,10,11,12,13,16,17,18] [(3,3),(4,4),(5,5),(6,6)] 7 ⟨_,_,rfl,rfl⟩
       ·refine go ?_
        exact je [0,1,2,9,10,11,13,16] [(3,3),(4,4)] 5 fun h=>⟨_,h,rfl⟩
      ·rintro e' ⟨open__3,h,rfl⟩; refine tl h ?_; unfold spec_l14Base_j4
       refine sq ?_
       refine go ?_; intro x99
       refine go ?_
       refine sp ?_ ?_
       ·exact gz
       ·refine go ?_; intro x108
        refine go ?_
        exact je [0,1,2,9,10,11] [(6,3),(4,4)] 5 fun h=>⟨_,_,h,rfl⟩
   ·rintro e' ⟨names_2,open__2,h,rfl⟩; refine tl h ?_; unfold spec_l14Base_j2
    refine go ?_
    exact bk [0,1,2,9,10,11] [(3,3),(4,4)] 5 ⟨_,_,_,rfl,rfl⟩
  ·refine go ?_
   exact je [9,10] [(3,3),(4,4)] 5 fun h=>⟨_,_,h,rfl⟩
 ·rintro e' ⟨names,open_,h,rfl⟩; refine tl h ?_; unfold spec_l14Base_j1
  exact gz
instance W_spec_l06Live:∀ b in_,Wlk X (spec_l06Live b in_) 147 [] [.agg [.sc (.string b.Line),.sc (.int .i64 b.Ins),.sc (.int .i64 b.Ord),.list false 1 (List.map (rK .i64) b.Dels)],.one (.list false 1 (List.map rB in_))] (fun r'=>[.one (.sc (.bool r'))]) (fun r'=>[]):=fun b in_=>by
 refine ws f147 47 [.tmp 4] (h2 t3 (h2 t4 (h2 t40 (h2 t73 (h2 t202 (h2 R_b R_i64)))))) ?_
 intro r'; unfold spec_l06Live
 refine go ?_
 refine sq ?_
 refine go ?_; intro x11
 refine go ?_
 refine gc 7 (fun b_1 e'=>e'=⟨47,5,6,[(1,.pl (.one (.v (.list false 1 (List.map rB in_))))),(2,.pl (.one (.ref 5 []))),(20,.pl (.one (.v (.sc (.bool b_1)))))],[(5,.box true [.sc (.string b.Line),.sc (.int .i64 b.Ins),.sc (.int .i64 b.Ord),.list false 1 (List.map (rK .i64) b.Dels)])]⟩) ?_ ?_
 ·intro p
  refine zY ?_ ?_
  ·refine go ?_
   exact ge [1,2,20] [(5,5)] 6 rfl
  ·refine go ?_; intro x v'
   refine go ?_
   exact ge [1,2,20] [(5,5)] 6 rfl
 ·rintro b_1 _ rfl
  refine go ?_
  refine sp ?_ ?_
  ·exact gz
  ·refine go ?_
   refine jn (fun e'=>spec_l06Live_j1=some r'∧e'=⟨47,5,5,[],[]⟩) ?_ ?_
   ·refine go ?_
    refine lp (fun i e'=>e'=⟨47,5,6,[(1,.pl (.one (.v (.list false 1 (List.map rB in_))))),(2,.pl (.one (.ref 5 []))),(5,.pl (.one (.v (.sc (.int .i64 i)))))],[(5,.box true [.sc (.string b.Line),.sc (.int .i64 b.Ins),.sc (.int .i64 b.Ord),.list false 1 (List.map (rK .i64) b.Dels)])]⟩) [1,2,5] [(5,5)] 6 rfl ?_
    rintro i _ rfl y1'
    change Tl _ (spec_l06Live_l1 b in_ i) _ _; unfold spec_l06Live_l1
    refine sq ?_
    refine go ?_
    refine sp ?_ ?_
    ·refine go ?_
     refine sq ?_
     refine go ?_; intro x_1 v'
     refine go ?_; intro x36
     refine go ?_
     refine gc 9 (fun b_2 e'=>e'=⟨47,5,6,[(1,.pl (.one (.v (.list false 1 (List.map rB in_))))),(2,.pl (.one (.ref 5 []))),(5,.pl (.one (.v (.sc (.int .i64 i))))),(46,.pl (.one (.v (.sc (.bool b_2)))))],[(5,.box true [.sc (.string b.Line),.sc (.int .i64 b.Ins),.sc (.int .i64 b.Ord),.list false 1 (List.map (rK .i64) b.Dels)])]⟩) ?_ ?_
     ·intro p
      refine qT ?_ ?_
      ·refine go ?_; intro x_2 v'
       refine go ?_
       exact ge [1,2,5,46] [(5,5)] 6 rfl
      ·refine go ?_
       exact ge [1,2,5,46] [(5,5)] 6 rfl
     ·rintro b_2 _ rfl
      refine go ?_
      refine sp ?_ ?_
      ·exact gz
      ·refine go ?_
       exact bk [1,2,5] [(5,5)] 6 rfl
    ·refine go ?_
     exact je [] [] 5 fun h=>⟨h,rfl⟩
   ·rintro e' ⟨h,rfl⟩; refine tl h ?_; unfold spec_l06Live_j1
    exact gz
instance W_spec_l06Places:∀ w in_,Wlk X (jY w in_) 148 [] [.agg [.list false 1 (List.map (rL false 1 (rK .i64)) w.Parents),.list false 4 (List.map (zC false) w.Bodies)],.one (.list false 1 (List.map rB in_))] (fun r'=>[.one (.list true 1 (List.map (rK .i64) r'))]) (fun r'=>[]):=fun w in_=>by
 refine ws f148 27 [.tmp 4] (h2 t3 (h2 t34 (h2 t36 (h2 t40 (h2 t73 (h2 qX (h2 zS (h2 R_b R_i64)))))))) ?_
 intro r'; unfold jY
 refine go ?_
 refine l1 ?_
 refine go ?_
 refine jn (fun e'=>∃ out_,spec_l06Places_j1 out_=some r'∧e'=⟨27,3,4,[(5,.pl (.one (.ref 3 [])))],[(3,.list true 1 (List.map (rK .i64) out_))]⟩) ?_ ?_
 ·refine go ?_
  refine lp (fun s' e'=>∃ i out__1,s'=(i,out__1)∧e'=⟨27,3,5,[(1,.pl (.one (.v (.list false 1 (List.map rB in_))))),(2,.pl (.one (.ref 3 []))),(5,.pl (.one (.ref 4 []))),(6,.pl (.one (.v (.sc (.int .i64 i)))))],[(3,.box true [.list false 1 (List.map (rL false 1 (rK .i64)) w.Parents),.list false 4 (List.map (zC false) w.Bodies)]),(4,.list true 1 (List.map (rK .i64) out__1))]⟩) [1,2,5,6] [(3,3),(5,4)] 5 ⟨_,_,rfl,rfl⟩ ?_
  rintro s' _ ⟨i,out__1,rfl,rfl⟩ y1'
  change Tl _ (xA w in_ i out__1) _ _; unfold xA
  refine sq ?_
  refine go ?_
  refine sp ?_ ?_
  ·refine go ?_
   refine sq ?_
   refine go ?_; intro x v'
   refine go ?_; intro x21
   refine go ?_
   refine sp ?_ ?_
   ·refine go ?_; intro l v'
    refine go ?_
    exact bk [1,2,5,6] [(3,3),(4,4)] 5 ⟨_,_,rfl,rfl⟩
   ·refine go ?_
    exact bk [1,2,5,6] [(3,3),(4,4)] 5 ⟨_,_,rfl,rfl⟩
  ·refine go ?_
   exact je [5] [(4,3)] 4 fun h=>⟨_,h,rfl⟩
 ·rintro e' ⟨out_,h,rfl⟩; refine tl h ?_; unfold spec_l06Places_j1
  exact gz
instance W_spec_l06Seen:∀ w parents,Wlk X (spec_l06Seen w parents) 172 [] [.agg [.list false 1 (List.map (rL false 1 (rK .i64)) w.Parents),.list false 4 (List.map (zC false) w.Bodies)],.one (.list false 1 (List.map (rK .i64) parents))] (fun r'=>[.one (.list true 1 (List.map (rK .i64) r'))]) (fun r'=>[]):=fun w parents=>by
 refine ws f172 11 [.tmp 4] (h2 t33 (h2 t36 (h2 qX (h2 zS (h2 R_b R_i64))))) ?_
 intro r'; unfold spec_l06Seen
 refine go ?_
 refine l1 ?_
 refine go ?_
 refine rc [1,3,0,2,4,5,6] ?_
 refine go ?_; intro x9
 refine go ?_; intro x10
 exact gz
instance W_spec_l06Lines:∀ w places,Wlk X (spec_l06Lines w places) 150 [] [.agg [.list false 1 (List.map (rL false 1 (rK .i64)) w.Parents),.list false 4 (List.map (zC false) w.Bodies)],.one (.list false 1 (List.map (rK .i64) places))] (fun r'=>[.one (.list true 1 (List.map rS r'))]) (fun r'=>[]):=fun w places=>by
 refine ws f150 27 [.tmp 4] (h2 t3 (h2 t9 (h2 t34 (h2 t36 (h2 t37 (h2 t40 (h2 t73 (h2 qX (h2 zS (h2 R_i64 R_s)))))))))) ?_
 intro r'; unfold spec_l06Lines
 refine go ?_
 refine l1 ?_
 refine go ?_
 refine jn (fun e'=>∃ out_,spec_l06Lines_j1 out_=some r'∧e'=⟨27,3,4,[(5,.pl (.one (.ref 3 [])))],[(3,.list true 1 (List.map rS out_))]⟩) ?_ ?_
 ·refine go ?_
  refine lp (fun s' e'=>∃ i out__1,s'=(i,out__1)∧e'=⟨27,3,5,[(1,.pl (.one (.v (.list false 1 (List.map (rK .i64) places))))),(2,.pl (.one (.ref 3 []))),(5,.pl (.one (.ref 4 []))),(6,.pl (.one (.v (.sc (.int .i64 i)))))],[(3,.box true [.list false 1 (List.map (rL false 1 (rK .i64)) w.Parents),.list false 4 (List.map (zC false) w.Bodies)]),(4,.list true 1 (List.map rS out__1))]⟩) [1,2,5,6] [(3,3),(5,4)] 5 ⟨_,_,rfl,rfl⟩ ?_
  rintro s' _ ⟨i,out__1,rfl,rfl⟩ y1'
  change Tl _ (spec_l06Lines_l1 w places i out__1) _ _; unfold spec_l06Lines_l1
  refine sq ?_
  refine go ?_
  refine sp ?_ ?_
  ·refine go ?_
   refine sq ?_
   refine go ?_
   refine rc [0,1,2,3,4,5,6,7,8,9,10,11,12] ?_
   refine go ?_; intro x v'
   refine go ?_; intro x_1 v'
   refine go ?_; intro l v'
   refine go ?_
   exact bk [1,2,5,6] [(3,3),(4,4)] 5 ⟨_,_,rfl,rfl⟩
  ·refine go ?_
   exact je [5] [(4,3)] 4 fun h=>⟨_,h,rfl⟩
 ·rintro e' ⟨out_,h,rfl⟩; refine tl h ?_; unfold spec_l06Lines_j1
  exact gz
instance W_spec_l03Line:∀ c,Wlk X (spec_l03Line c) 235 [0] [.one (.box true [.list false 1 (List.map (rK .u8) c.b),.sc (.int .i64 c.i),.sc (.int .i64 c.h)])] (fun r'=>[.one (.sc (.string r'.1))]) (fun r'=>[(0,.box true [.list false 1 (List.map (rK .u8) r'.2.b),.sc (.int .i64 r'.2.i),.sc (.int .i64 r'.2.h)])]):=fun c=>by
 refine ws f235 6 [.tmp 2] (h2 t9 (h2 t37 (h2 R_s R_u8))) ?_
 intro r'; unfold spec_l03Line
 refine go ?_
 refine oF 1 ?_
 refine go ?_; intro x5
 exact gz
instance W_spec_l04Near:∀ c a,Wlk X (spec_l04Near c a) 171 [0] [.one (.box true [.list false 1 (List.map (rK .u8) c.b),.sc (.int .i64 c.i),.sc (.int .i64 c.h)]),.one (.list false 1 (List.map rS a))] (fun r'=>[.one (.list true 1 (List.map rS r'.1))]) (fun r'=>[(0,.box true [.list false 1 (List.map (rK .u8) r'.2.b),.sc (.int .i64 r'.2.i),.sc (.int .i64 r'.2.h)])]):=fun c a=>by
 refine ws f171 51 [.tmp 4] (h2 t3 (h2 t9 (h2 t37 (h2 R_s R_u8)))) ?_
 intro r'; unfold spec_l04Near
 refine go ?_
 refine l1 ?_
 refine go ?_
 refine jn (fun e'=>∃ c_1 c_2 c_3 out_,spec_l04Near_j1 c_1 c_2 c_3 out_=some r'∧e'=⟨51,2,3,[(0,.pl (.one (.ref 0 []))),(5,.pl (.one (.ref 2 [])))],[(0,.box true [.list false 1 (List.map (rK .u8) c_1),.sc (.int .i64 c_2),.sc (.int .i64 c_3)]),(2,.list true 1 (List.map rS out_))]⟩) ?_ ?_
 ·refine go ?_
  refine lp (fun s' e'=>∃ i c_4 c_5 c_6 out__1,s'=(i,c_4,c_5,c_6,out__1)∧e'=⟨51,2,3,[(0,.pl (.one (.ref 0 []))),(1,.pl (.one (.v (.list false 1 (List.map rS a))))),(5,.pl (.one (.ref 2 []))),(6,.pl (.one (.v (.sc (.int .i64 i)))))],[(0,.box true [.list false 1 (List.map (rK .u8) c_4),.sc (.int .i64 c_5),.sc (.int .i64 c_6)]),(2,.list true 1 (List.map rS out__1))]⟩) [0,1,5,6] [(0,0),(3,2)] 3 ⟨_,_,_,_,_,rfl,rfl⟩ ?_
  rintro s' _ ⟨i,c_4,c_5,c_6,out__1,rfl,rfl⟩ y1'
  change Tl _ (spec_l04Near_l1 a i c_4 c_5 c_6 out__1) _ _; unfold spec_l04Near_l1
  refine sq ?_
  refine go ?_
  refine sp ?_ ?_
  ·refine go ?_
   refine sq ?_
   refine go ?_; intro x15
   refine go ?_
   refine sp ?_ ?_
   ·refine go ?_; intro x27
    refine go ?_; intro l_1 v'
    refine go ?_
    exact bk [0,1,5,6] [(0,0),(2,2)] 3 ⟨_,_,_,_,_,rfl,rfl⟩
   ·refine go ?_
    refine sp ?_ ?_
    ·refine rc [0,1,3,4,5,2,6,7,8,9] ?_
     refine go ?_; intro x v'
     refine go ?_; intro x34
     refine go ?_; intro l_2 v'
     refine go ?_
     exact bk [0,1,5,6] [(0,0),(2,2)] 3 ⟨_,_,_,_,_,rfl,rfl⟩
    ·refine go ?_
     refine sp ?_ ?_
     ·refine go ?_
      exact bk [0,1,5,6] [(0,0),(2,2)] 3 ⟨_,_,_,_,_,rfl,rfl⟩
     ·refine go ?_; intro x_1 v'
      refine go ?_; intro l_3 v'
      refine go ?_
      exact bk [0,1,5,6] [(0,0),(2,2)] 3 ⟨_,_,_,_,_,rfl,rfl⟩
  ·refine go ?_
   exact je [0,5] [(0,0),(2,2)] 3 fun h=>⟨_,_,_,_,h,rfl⟩
 ·rintro e' ⟨c_1,c_2,c_3,out_,h,rfl⟩; refine tl h ?_; unfold spec_l04Near_j1
  refine sq ?_
  refine go ?_; intro x44
  refine go ?_
  refine sp ?_ ?_
  ·refine go ?_; intro x47
   refine go ?_; intro l v'
   exact gz
  ·exact gz
instance W_spec_l13Path2:∀ c,Wlk X (spec_l13Path2 c) 215 [0] [.one (.box true [.list false 1 (List.map (rK .u8) c.b),.sc (.int .i64 c.i),.sc (.int .i64 c.h)])] (fun r'=>[.one (.sc (.string r'.1))]) (fun r'=>[(0,.box true [.list false 1 (List.map (rK .u8) r'.2.b),.sc (.int .i64 r'.2.i),.sc (.int .i64 r'.2.h)])]):=fun c=>by
 refine ws f215 11 [.tmp 2] (h2 t9 (h2 t37 (h2 R_s R_u8))) ?_
 intro r'; unfold spec_l13Path2
 refine go ?_
 refine sq ?_
 refine go ?_; intro x4
 refine go ?_
 refine sp ?_ ?_
 ·refine go ?_
  refine oF 2 ?_
  refine go ?_; intro x7
  exact gz
 ·refine go ?_
  refine oF 2 ?_
  refine go ?_; intro x10
  exact gz
instance W_spec_l03Lines:∀ c n,Wlk X (spec_l03Lines c n) 174 [0] [.one (.box true [.list false 1 (List.map (rK .u8) c.b),.sc (.int .i64 c.i),.sc (.int .i64 c.h)]),.one (.sc (.int .i64 n))] (fun r'=>[.one (.list true 1 (List.map rS r'.1))]) (fun r'=>[(0,.box true [.list false 1 (List.map (rK .u8) r'.2.b),.sc (.int .i64 r'.2.i),.sc (.int .i64 r'.2.h)])]):=fun c n=>by
 refine ws f174 22 [.tmp 4] (h2 t3 (h2 t9 (h2 t37 (h2 R_s R_u8)))) ?_
 intro r'; unfold spec_l03Lines
 refine go ?_
 refine l1 ?_
 refine go ?_
 refine jn (fun e'=>∃ c_1 c_2 c_3 out_,spec_l03Lines_j1 c_1 c_2 c_3 out_=some r'∧e'=⟨22,2,3,[(5,.pl (.one (.ref 2 [])))],[(0,.box true [.list false 1 (List.map (rK .u8) c_1),.sc (.int .i64 c_2),.sc (.int .i64 c_3)]),(2,.list true 1 (List.map rS out_))]⟩) ?_ ?_
 ·refine go ?_
  refine lp (fun s' e'=>∃ i c_4 c_5 c_6 out__1,s'=(i,c_4,c_5,c_6,out__1)∧e'=⟨22,2,3,[(0,.pl (.one (.ref 0 []))),(1,.pl (.one (.v (.sc (.int .i64 n))))),(5,.pl (.one (.ref 2 []))),(6,.pl (.one (.v (.sc (.int .i64 i)))))],[(0,.box true [.list false 1 (List.map (rK .u8) c_4),.sc (.int .i64 c_5),.sc (.int .i64 c_6)]),(2,.list true 1 (List.map rS out__1))]⟩) [0,1,5,6] [(0,0),(3,2)] 3 ⟨_,_,_,_,_,rfl,rfl⟩ ?_
  rintro s' _ ⟨i,c_4,c_5,c_6,out__1,rfl,rfl⟩ y1'
  change Tl _ (spec_l03Lines_l1 n i c_4 c_5 c_6 out__1) _ _; unfold spec_l03Lines_l1
  refine sq ?_
  refine go ?_; intro x12
  refine go ?_
  refine sp ?_ ?_
  ·refine go ?_
   refine sq ?_
   refine go ?_; intro x18
   refine go ?_; intro l v'
   refine go ?_
   exact bk [0,1,5,6] [(0,0),(2,2)] 3 ⟨_,_,_,_,_,rfl,rfl⟩
  ·refine go ?_
   exact je [5] [(0,0),(2,2)] 3 fun h=>⟨_,_,_,_,h,rfl⟩
 ·rintro e' ⟨c_1,c_2,c_3,out_,h,rfl⟩; refine tl h ?_; unfold spec_l03Lines_j1
  exact gz
instance W_spec_l01Long:∀ n x,Wlk X (spec_l01Long n x) 95 [] [.one (.sc (.int .i64 n)),.one (.sc (.int .u8 x))] (fun r'=>[.one (.sc (.string r'))]) (fun r'=>[]):=fun n x=>by
 refine ws f95 20 [.tmp 4] (h2 t3 (h2 t5 (h2 t9 (h2 t22 R_u8)))) ?_
 intro r'; unfold spec_l01Long
 refine go ?_; intro x8 v'
 refine go ?_
 refine jn (fun e'=>∃ out_,spec_l01Long_j1 out_=some r'∧e'=⟨20,2,3,[(5,.pl (.one (.ref 2 [])))],[(2,.list true 1 (List.map (rK .u8) out_))]⟩) ?_ ?_
 ·refine go ?_
  refine lp (fun s' e'=>∃ i out__1,s'=(i,out__1)∧e'=⟨20,2,3,[(0,.pl (.one (.v (.sc (.int .i64 n))))),(1,.pl (.one (.v (.sc (.int .u8 x))))),(5,.pl (.one (.ref 2 []))),(6,.pl (.one (.v (.sc (.int .i64 i)))))],[(2,.list true 1 (List.map (rK .u8) out__1))]⟩) [0,1,5,6] [(2,2)] 3 ⟨_,_,rfl,rfl⟩ ?_
  rintro s' _ ⟨i,out__1,rfl,rfl⟩ y1'
  change Tl _ (spec_l01Long_l1 n x i out__1) _ _; unfold spec_l01Long_l1
  refine sq ?_
  refine go ?_
  refine sp ?_ ?_
  ·refine go ?_
   refine sq ?_
   refine go ?_; intro x_1 v'
   refine go ?_
   exact bk [0,1,5,6] [(2,2)] 3 ⟨_,_,rfl,rfl⟩
  ·refine go ?_
   exact je [5] [(2,2)] 3 fun h=>⟨_,h,rfl⟩
 ·rintro e' ⟨out_,h,rfl⟩; refine tl h ?_; unfold spec_l01Long_j1
  exact gz
instance W_spec_l03Any:∀ c,Wlk X (spec_l03Any c) 216 [0] [.one (.box true [.list false 1 (List.map (rK .u8) c.b),.sc (.int .i64 c.i),.sc (.int .i64 c.h)])] (fun r'=>[.one (.list true 1 (List.map rS r'.1))]) (fun r'=>[(0,.box true [.list false 1 (List.map (rK .u8) r'.2.b),.sc (.int .i64 r'.2.i),.sc (.int .i64 r'.2.h)])]):=fun c=>by
 refine ws f216 36 [.tmp 2] (h2 t3 (h2 t9 (h2 t37 (h2 R_s R_u8)))) ?_
 intro r'; unfold spec_l03Any
 refine go ?_
 refine l1 ?_
 refine go ?_; intro x5
 refine go ?_
 refine jn (fun e'=>∃ c_1 c_2 c_3 out_,spec_l03Any_j1 c_1 c_2 c_3 out_=some r'∧e'=⟨36,1,2,[(3,.pl (.one (.ref 1 [])))],[(0,.box true [.list false 1 (List.map (rK .u8) c_1),.sc (.int .i64 c_2),.sc (.int .i64 c_3)]),(1,.list true 1 (List.map rS out_))]⟩) ?_ ?_
 ·refine go ?_; intro x7
  refine go ?_
  refine sp ?_ ?_
  ·refine go ?_; intro x12
   refine go ?_; intro x14
   refine go ?_; intro l v'
   refine go ?_
   exact je [3] [(0,0),(2,1)] 2 fun h=>⟨_,_,_,_,h,rfl⟩
  ·refine go ?_
   refine sp ?_ ?_
   ·refine go ?_; intro l_1 v'
    refine go ?_
    exact je [3] [(0,0),(2,1)] 2 fun h=>⟨_,_,_,_,h,rfl⟩
   ·refine go ?_
    refine sp ?_ ?_
    ·refine go ?_
     refine lp (fun s' e'=>∃ c_4 c_5 c_6 out__1,s'=(c_4,c_5,c_6,out__1)∧e'=⟨36,1,2,[(0,.pl (.one (.ref 0 []))),(3,.pl (.one (.ref 1 [])))],[(0,.box true [.list false 1 (List.map (rK .u8) c_4),.sc (.int .i64 c_5),.sc (.int .i64 c_6)]),(1,.list true 1 (List.map rS out__1))]⟩) [0,3] [(0,0),(2,1)] 2 ⟨_,_,_,_,rfl,rfl⟩ ?_
     rintro s' _ ⟨c_4,c_5,c_6,out__1,rfl,rfl⟩ y1'
     change Tl _ (spec_l03Any_l1 c_4 c_5 c_6 out__1) _ _; unfold spec_l03Any_l1
     refine sq ?_
     refine go ?_; intro x27
     refine go ?_
     refine sp ?_ ?_
     ·refine go ?_; intro x32
      refine go ?_; intro l_2 v'
      refine go ?_
      exact bk [0,3] [(0,0),(1,1)] 2 ⟨_,_,_,_,rfl,rfl⟩
     ·refine go ?_
      exact je [3] [(0,0),(1,1)] 2 fun h=>⟨_,_,_,_,h,rfl⟩
    ·refine go ?_
     exact je [3] [(0,0),(2,1)] 2 fun h=>⟨_,_,_,_,h,rfl⟩
 ·rintro e' ⟨c_1,c_2,c_3,out_,h,rfl⟩; refine tl h ?_; unfold spec_l03Any_j1
  exact gz
instance W_spec_l01PickInt:∀ c list_,Wlk X (spec_l01PickInt c list_) 94 [0] [.one (.box true [.list false 1 (List.map (rK .u8) c.b),.sc (.int .i64 c.i),.sc (.int .i64 c.h)]),.one (.list false 1 (List.map (rK .i64) list_))] (fun r'=>[.one (.sc (.int .i64 r'.1))]) (fun r'=>[(0,.box true [.list false 1 (List.map (rK .u8) r'.2.b),.sc (.int .i64 r'.2.i),.sc (.int .i64 r'.2.h)])]):=fun c list_=>by
 refine ws f94 12 [.tmp 4] (h2 t3 (h2 t40 (h2 R_i64 R_u8))) ?_
 intro r'; unfold spec_l01PickInt
 refine go ?_; intro x9
 refine go ?_; intro x v'
 exact gz
instance W_spec_l06Closure:∀ w v,Wlk X (spec_l06Closure w v) 149 [] [.agg [.list false 1 (List.map (rL false 1 (rK .i64)) w.Parents),.list false 4 (List.map (zC false) w.Bodies)],.one (.sc (.int .i64 v))] (fun r'=>[.one (.list true 1 (List.map rB r'))]) (fun r'=>[]):=fun w v=>by
 refine ws f149 10 [.tmp 4] (h2 t3 (h2 t33 (h2 t36 (h2 t40 (h2 qX (h2 zS (h2 R_b R_i64))))))) ?_
 intro r'; unfold spec_l06Closure
 refine go ?_
 refine l1 ?_
 refine go ?_; intro x9
 exact gz
instance W_spec_l06Text:∀ w v,Wlk X (spec_l06Text w v) 55 [] [.agg [.list false 1 (List.map (rL false 1 (rK .i64)) w.Parents),.list false 4 (List.map (zC false) w.Bodies)],.one (.sc (.int .i64 v))] (fun r'=>[.one (.list true 1 (List.map rS r'))]) (fun r'=>[]):=fun w v=>by
 refine ws f55 12 [.tmp 4] (h2 t36 (h2 qX (h2 zS (h2 R_b (h2 R_i64 R_s))))) ?_
 intro r'; unfold spec_l06Text
 refine go ?_
 refine l1 ?_
 refine go ?_
 refine rc [3,0,1,2,4,5,6,7] ?_
 refine go ?_; intro x9
 refine go ?_; intro x10
 refine go ?_; intro x11
 exact gz
instance W_spec_l15Changes:∀ c s parents,Wlk X (spec_l15Changes c s parents) 140 [0] [.one (.box true [.list false 1 (List.map (rK .u8) c.b),.sc (.int .i64 c.i),.sc (.int .i64 c.h)]),.agg [.list false 3 (List.map (zA false) s.Commits),.list false 2 (List.map (zB false) s.Files)],.one (.list false 1 (List.map (rK .i64) parents))] (fun r'=>[.one (.list true 4 (List.map (zE true) r'.1))]) (fun r'=>[(0,.box true [.list false 1 (List.map (rK .u8) r'.2.b),.sc (.int .i64 r'.2.i),.sc (.int .i64 r'.2.h)])]):=fun c s parents=>by
 refine ws f140 146 [.tmp 6] (h2 t3 (h2 t9 (h2 t24 (h2 t25 (h2 t27 (h2 t36 (h2 t37 (h2 t40 (h2 t41 (h2 t45 (h2 t144 (h2 t149 (h2 R_LLi64 (h2 qX (h2 zS (h2 R_T_impl_Change (h2 qK (h2 zT (h2 jJ (h2 R_i64 (h2 R_s R_u8))))))))))))))))))))) ?_
 intro r'; unfold spec_l15Changes
 refine go ?_
 refine lf ?_ (fun a g=>opsV_nilA a 4 g)
 refine go ?_
 refine rc [0,4,1,2,3,5,6,7,8,9,10,11,12] ?_
 refine go ?_; intro x20
 refine go ?_; intro x22
 refine go ?_
 refine jn (fun e'=>∃ c_1 c_2 c_3 out_,spec_l15Changes_j1 s x22 c_1 c_2 c_3 out_=some r'∧e'=⟨146,4,7,[(0,.pl (.one (.ref 0 []))),(4,.pl (.one (.ref 4 []))),(7,.pl (.one (.ref 5 []))),(10,.pl (.one (.ref 6 [])))],[(0,.box true [.list false 1 (List.map (rK .u8) c_1),.sc (.int .i64 c_2),.sc (.int .i64 c_3)]),(4,.box true [.list false 3 (List.map (zA false) s.Commits),.list false 2 (List.map (zB false) s.Files)]),(5,.list true 3 (List.map (zD true) x22.1)),(6,.list true 4 (List.map (zE true) out_))]⟩) ?_ ?_
 ·refine go ?_
  refine lp (fun s' e'=>∃ i_1 c_16 c_17 c_18 out__3,s'=(i_1,c_16,c_17,c_18,out__3)∧e'=⟨146,4,8,[(0,.pl (.one (.ref 0 []))),(2,.pl (.one (.v (.list false 1 (List.map (rK .i64) parents))))),(4,.pl (.one (.ref 4 []))),(7,.pl (.one (.ref 5 []))),(8,.pl (.one (.ref 6 []))),(10,.pl (.one (.ref 7 []))),(11,.pl (.one (.v (.sc (.int .i64 i_1)))))],[(0,.box true [.list false 1 (List.map (rK .u8) c_16),.sc (.int .i64 c_17),.sc (.int .i64 c_18)]),(4,.box true [.list false 3 (List.map (zA false) s.Commits),.list false 2 (List.map (zB false) s.Files)]),(5,.list true 3 (List.map (zD true) x22.1)),(6,.list true 1 (List.map (rK .i64) x22.2.1)),(7,.list true 4 (List.map (zE true) out__3))]⟩) [0,2,4,7,8,10,11] [(0,0),(4,4),(7,5),(8,6),(10,7)] 8 ⟨_,_,_,_,_,rfl,rfl⟩ ?_
  rintro s' _ ⟨i_1,c_16,c_17,c_18,out__3,rfl,rfl⟩ y1'
  change Tl _ (spec_l15Changes_l2 s parents x22 i_1 c_16 c_17 c_18 out__3) _ _; unfold spec_l15Changes_l2
  refine sq ?_
  refine go ?_
  refine sp ?_ ?_
  ·refine go ?_
   refine sq ?_
   refine go ?_; intro x_6 v'
   refine go ?_; intro x38
   refine go ?_
   refine gc 4 (fun b_1 e'=>e'=⟨146,4,8,[(0,.pl (.one (.ref 0 []))),(2,.pl (.one (.v (.list false 1 (List.map (rK .i64) parents))))),(4,.pl (.one (.ref 4 []))),(7,.pl (.one (.ref 5 []))),(8,.pl (.one (.ref 6 []))),(10,.pl (.one (.ref 7 []))),(11,.pl (.one (.v (.sc (.int .i64 i_1))))),(12,.pl (.one (.v (.sc (.int .i64 x38))))),(45,.pl (.one (.v (.sc (.bool b_1.1)))))],[(0,.box true [.list false 1 (List.map (rK .u8) b_1.2.1),.sc (.int .i64 b_1.2.2.1),.sc (.int .i64 b_1.2.2.2)]),(4,.box true [.list false 3 (List.map (zA false) s.Commits),.list false 2 (List.map (zB false) s.Files)]),(5,.list true 3 (List.map (zD true) x22.1)),(6,.list true 1 (List.map (rK .i64) x22.2.1)),(7,.list true 4 (List.map (zE true) out__3))]⟩) ?_ ?_
   ·intro p
    refine qT ?_ ?_
    ·refine go ?_; intro x43
     refine go ?_
     exact ge [0,2,4,7,8,10,11,12,45] [(0,0),(4,4),(5,5),(6,6),(7,7)] 8 rfl
    ·refine go ?_
     exact ge [0,2,4,7,8,10,11,12,45] [(0,0),(4,4),(5,5),(6,6),(7,7)] 8 rfl
   ·rintro b_1 _ rfl
    refine go ?_
    refine sp ?_ ?_
    ·refine rc [0,1,2,3,4,6,7,9,10,11,15,17,18,19,23,25,26,27,28,5,8,12,13,14,16,20,21,22,24,29,1008,30,1009,31,1010,32,33,34,35,36,37] ?_
     refine go ?_; intro x_7 v'
     refine go ?_; intro x_8 v'
     refine go ?_; intro x_9 v'
     refine go ?_
     refine gm ?_; intro x76
     refine go ?_
     refine gm ?_; intro x77
     refine go ?_
     refine gm ?_; intro x78
     refine go ?_; intro x79
     refine go ?_; intro l_2 v'
     refine go ?_
     exact bk [0,2,4,7,8,10,11] [(0,0),(4,4),(5,5),(6,6),(7,7)] 8 ⟨_,_,_,_,_,rfl,rfl⟩
    ·refine go ?_
     exact bk [0,2,4,7,8,10,11] [(0,0),(4,4),(5,5),(6,6),(7,7)] 8 ⟨_,_,_,_,_,rfl,rfl⟩
  ·refine go ?_
   exact je [0,4,7,10] [(0,0),(4,4),(5,5),(7,6)] 7 fun h=>⟨_,_,_,_,h,rfl⟩
 ·rintro e' ⟨c_1,c_2,c_3,out_,h,rfl⟩; refine tl h ?_; unfold spec_l15Changes_j1
  refine jn (fun e'=>∃ c_4 c_5 c_6 out__1,spec_l15Changes_j2 c_4 c_5 c_6 out__1=some r'∧e'=⟨146,4,5,[(10,.pl (.one (.ref 4 [])))],[(0,.box true [.list false 1 (List.map (rK .u8) c_4),.sc (.int .i64 c_5),.sc (.int .i64 c_6)]),(4,.list true 4 (List.map (zE true) out__1))]⟩) ?_ ?_
  ·refine go ?_
   refine lp (fun s' e'=>∃ i c_7 c_8 c_9 out__2,s'=(i,c_7,c_8,c_9,out__2)∧e'=⟨146,4,7,[(0,.pl (.one (.ref 0 []))),(4,.pl (.one (.ref 4 []))),(7,.pl (.one (.ref 5 []))),(10,.pl (.one (.ref 6 []))),(13,.pl (.one (.v (.sc (.int .i64 i)))))],[(0,.box true [.list false 1 (List.map (rK .u8) c_7),.sc (.int .i64 c_8),.sc (.int .i64 c_9)]),(4,.box true [.list false 3 (List.map (zA false) s.Commits),.list false 2 (List.map (zB false) s.Files)]),(5,.list true 3 (List.map (zD true) x22.1)),(6,.list true 4 (List.map (zE true) out__2))]⟩) [0,4,7,10,13] [(0,0),(4,4),(5,5),(6,6)] 7 ⟨_,_,_,_,_,rfl,rfl⟩ ?_
   rintro s' _ ⟨i,c_7,c_8,c_9,out__2,rfl,rfl⟩ y1'
   change Tl _ (spec_l15Changes_l1 s x22 i c_7 c_8 c_9 out__2) _ _; unfold spec_l15Changes_l1
   refine sq ?_
   refine go ?_; intro x85
   refine go ?_
   refine sp ?_ ?_
   ·refine go ?_
    refine sq ?_
    refine go ?_; intro x91
    refine go ?_; intro x93
    refine go ?_
    refine l1 ?_
    refine go ?_
    refine jn (fun e'=>∃ c_10 c_11 c_12 x x_1 x_2 x_3,spec_l15Changes_j3 i out__2 c_10 c_11 c_12 x x_1 x_2 x_3=some y1'∧e'=⟨146,4,8,[(0,.pl (.one (.ref 0 []))),(4,.pl (.one (.ref 4 []))),(7,.pl (.one (.ref 5 []))),(10,.pl (.one (.ref 6 []))),(13,.pl (.one (.v (.sc (.int .i64 i))))),(14,.pl (.one (.ref 7 [])))],[(0,.box true [.list false 1 (List.map (rK .u8) c_10),.sc (.int .i64 c_11),.sc (.int .i64 c_12)]),(4,.box true [.list false 3 (List.map (zA false) s.Commits),.list false 2 (List.map (zB false) s.Files)]),(5,.list true 3 (List.map (zD true) x22.1)),(6,.list true 4 (List.map (zE true) out__2)),(7,.box true [.sc (.int .i64 x),.sc (.string x_1),.sc (.string x_2),.list true 1 (List.map rS x_3)])]⟩) ?_ ?_
    ·refine go ?_
     refine gc 4 (fun b e'=>e'=⟨146,4,8,[(0,.pl (.one (.ref 0 []))),(4,.pl (.one (.ref 4 []))),(7,.pl (.one (.ref 5 []))),(10,.pl (.one (.ref 6 []))),(13,.pl (.one (.v (.sc (.int .i64 i))))),(14,.pl (.one (.ref 7 []))),(102,.pl (.one (.v (.sc (.bool b.1)))))],[(0,.box true [.list false 1 (List.map (rK .u8) b.2.1),.sc (.int .i64 b.2.2.1),.sc (.int .i64 b.2.2.2)]),(4,.box true [.list false 3 (List.map (zA false) s.Commits),.list false 2 (List.map (zB false) s.Files)]),(5,.list true 3 (List.map (zD true) x22.1)),(6,.list true 4 (List.map (zE true) out__2)),(7,.box true [.sc (.int .i64 1),.sc (.string x91.1),.sc (.string (ByteArray.mk #[])),.list true 1 (List.map rS x93.1)])]⟩) ?_ ?_
     ·intro p
      refine qT ?_ ?_
      ·refine go ?_; intro x100
       refine go ?_
       exact ge [0,4,7,10,13,14,102] [(0,0),(4,4),(5,5),(6,6),(10,7)] 8 rfl
      ·refine go ?_
       exact ge [0,4,7,10,13,14,102] [(0,0),(4,4),(5,5),(6,6),(10,7)] 8 rfl
     ·rintro b _ rfl
      refine go ?_
      refine sp ?_ ?_
      ·refine go ?_; intro x107
       refine go ?_; intro x_4 v'
       refine go ?_
       refine l1 ?_
       refine go ?_
       refine oF 10 ?_
       refine go ?_; intro x115
       refine go ?_; intro x118
       refine go ?_; intro x121
       refine go ?_
       refine sp ?_ ?_
       ·refine rc [0,1,2,3,4,5,6,7,8,1014,9,10,11,12] ?_
        refine go ?_; intro x_5 v'
        refine go ?_
        refine gm ?_; intro x132
        refine go ?_; intro x133
        refine go ?_
        exact je [0,4,7,10,13,14] [(0,0),(4,4),(5,5),(6,6),(7,7)] 8 fun h=>⟨_,_,_,_,_,_,_,h,rfl⟩
       ·refine go ?_
        exact je [0,4,7,10,13,14] [(0,0),(4,4),(5,5),(6,6),(7,7)] 8 fun h=>⟨_,_,_,_,_,_,_,h,rfl⟩
      ·refine go ?_
       exact je [0,4,7,10,13,14] [(0,0),(4,4),(5,5),(6,6),(7,7)] 8 fun h=>⟨_,_,_,_,_,_,_,h,rfl⟩
    ·rintro e' ⟨c_10,c_11,c_12,x,x_1,x_2,x_3,h,rfl⟩; refine tl h ?_; unfold spec_l15Changes_j3
     refine sq ?_
     refine go ?_; intro x136
     refine go ?_
     refine sp ?_ ?_
     ·refine go ?_
      refine oF 9 ?_
      refine go ?_; intro x139
      refine go ?_; intro l v'
      refine go ?_
      exact bk [0,4,7,10,13] [(0,0),(4,4),(5,5),(6,6)] 7 ⟨_,_,_,_,_,rfl,rfl⟩
     ·refine go ?_; intro l_1 v'
      refine go ?_
      exact bk [0,4,7,10,13] [(0,0),(4,4),(5,5),(6,6)] 7 ⟨_,_,_,_,_,rfl,rfl⟩
   ·refine go ?_
    exact je [10] [(0,0),(6,4)] 5 fun h=>⟨_,_,_,_,h,rfl⟩
  ·rintro e' ⟨c_4,c_5,c_6,out__1,h,rfl⟩; refine tl h ?_; unfold spec_l15Changes_j2
   exact gz
instance W_spec_l05Rise:∀ list_ n,Wlk X (spec_l05Rise list_ n) 146 [] [.one (.list false 1 (List.map (rK .i64) list_)),.one (.sc (.int .i64 n))] (fun r'=>[.one (.sc (.bool r'))]) (fun r'=>[]):=fun list_ n=>by
 refine ws f146 36 [.tmp 4] (h2 t3 (h2 t40 R_i64)) ?_
 intro r'; unfold spec_l05Rise
 refine go ?_
 refine jn (fun e'=>spec_l05Rise_j1=some r'∧e'=⟨36,2,2,[],[]⟩) ?_ ?_
 ·refine go ?_
  refine lp (fun i e'=>e'=⟨36,2,2,[(0,.pl (.one (.v (.list false 1 (List.map (rK .i64) list_))))),(1,.pl (.one (.v (.sc (.int .i64 n))))),(5,.pl (.one (.v (.sc (.int .i64 i)))))],[]⟩) [0,1,5] [] 2 rfl ?_
  rintro i _ rfl y1'
  change Tl _ (jS list_ n i) _ _; unfold jS
  refine sq ?_
  refine go ?_
  refine sp ?_ ?_
  ·refine go ?_
   refine sq ?_
   refine go ?_
   refine rq ?_
   refine go ?_; intro x v'
   refine go ?_; intro x18
   refine go ?_
   refine qc 15 (fun b e'=>e'=⟨36,2,2,[(0,.pl (.one (.v (.list false 1 (List.map (rK .i64) list_))))),(1,.pl (.one (.v (.sc (.int .i64 n))))),(5,.pl (.one (.v (.sc (.int .i64 i))))),(35,.pl (.one (.v (.sc (.bool b)))))],[]⟩) ?_ ?_
   ·intro p
    refine quV_spR ?_ ?_
    ·refine go ?_
     exact ge [0,1,5,35] [] 2 rfl
    ·refine go ?_
     refine qc 11 (fun b_1 e'=>e'=⟨36,2,2,[(0,.pl (.one (.v (.list false 1 (List.map (rK .i64) list_))))),(1,.pl (.one (.v (.sc (.int .i64 n))))),(5,.pl (.one (.v (.sc (.int .i64 i))))),(20,.pl (.one (.v (.sc (.bool false))))),(21,.pl (.one (.v (.sc (.int .i64 i))))),(22,.pl (.one (.v (.sc (.bool (decide (i > 0))))))),(34,.pl (.one (.v (.sc (.bool b_1)))))],[]⟩) ?_ ?_
     ·intro p
      refine quV_spL ?_ ?_
      ·refine go ?_; intro x_1 v'
       refine go ?_
       exact ge [0,1,5,20,21,22,34] [] 2 rfl
      ·refine go ?_
       exact ge [0,1,5,20,21,22,34] [] 2 rfl
     ·rintro b_1 _ rfl
      refine go ?_
      exact ge [0,1,5,35] [] 2 rfl
   ·rintro b _ rfl
    refine go ?_
    refine sp ?_ ?_
    ·exact gz
    ·refine go ?_
     exact bk [0,1,5] [] 2 rfl
  ·refine go ?_
   exact je [] [] 2 fun h=>⟨h,rfl⟩
 ·rintro e' ⟨h,rfl⟩; refine tl h ?_; unfold spec_l05Rise_j1
  exact gz
instance W_spec_NoteOk:∀ note,Wlk X (spec_NoteOk note) 209 [] [.one (.sc (.string note))] (fun r'=>[.one (.sc (.bool r'))]) (fun r'=>[]):=fun note=>by
 refine ws f209 28 [.tmp 2] (h2 t3 (h2 t5 t9)) ?_
 intro r'; unfold spec_NoteOk
 refine go ?_
 refine jn (fun e'=>spec_NoteOk_j1 note=some r'∧e'=⟨28,1,1,[(0,.pl (.one (.v (.sc (.string note)))))],[]⟩) ?_ ?_
 ·refine go ?_
  refine lp (fun i e'=>e'=⟨28,1,1,[(0,.pl (.one (.v (.sc (.string note))))),(3,.pl (.one (.v (.sc (.int .i64 i)))))],[]⟩) [0,3] [] 1 rfl ?_
  rintro i _ rfl y1'
  change Tl _ (spec_NoteOk_l1 note i) _ _; unfold spec_NoteOk_l1
  refine sq ?_
  refine go ?_
  refine gc 4 (fun b e'=>e'=⟨28,1,1,[(0,.pl (.one (.v (.sc (.string note))))),(3,.pl (.one (.v (.sc (.int .i64 i))))),(12,.pl (.one (.v (.sc (.bool b)))))],[]⟩) ?_ ?_
  ·intro p
   refine qT ?_ ?_
   ·refine go ?_
    exact ge [0,3,12] [] 1 rfl
   ·refine go ?_
    exact ge [0,3,12] [] 1 rfl
  ·rintro b _ rfl
   refine go ?_
   refine sp ?_ ?_
   ·refine go ?_
    refine sq ?_
    refine go ?_; intro x17 v'
    refine go ?_
    refine gc 5 (fun b_1 e'=>e'=⟨28,1,1,[(0,.pl (.one (.v (.sc (.string note))))),(3,.pl (.one (.v (.sc (.int .i64 i))))),(24,.pl (.one (.v (.sc (.bool b_1)))))],[]⟩) ?_ ?_
    ·intro p
     refine zY ?_ ?_
     ·refine go ?_
      exact ge [0,3,24] [] 1 rfl
     ·refine go ?_
      exact ge [0,3,24] [] 1 rfl
    ·rintro b_1 _ rfl
     refine go ?_
     refine sp ?_ ?_
     ·exact gz
     ·refine go ?_
      exact bk [0,3] [] 1 rfl
   ·refine go ?_
    exact je [0] [] 1 fun h=>⟨h,rfl⟩
 ·rintro e' ⟨h,rfl⟩; refine tl h ?_; unfold spec_NoteOk_j1
  exact gz
instance W_spec_PathOk:∀ path,Wlk X (spec_PathOk path) 248 [] [.one (.sc (.string path))] (fun r'=>[.one (.sc (.bool r'))]) (fun r'=>[]):=fun path=>by
 refine ws f248 73 [.tmp 2] (h2 t3 (h2 t5 t9)) ?_
 intro r'; unfold spec_PathOk
 refine go ?_
 refine sq ?_
 refine go ?_; intro x9
 refine go ?_
 refine gc 4 (fun b e'=>e'=⟨73,1,1,[(0,.pl (.one (.v (.sc (.string path))))),(3,.pl (.one (.v (.sc (.int .i64 (path.size:Int)))))),(15,.pl (.one (.v (.sc (.bool b)))))],[]⟩) ?_ ?_
 ·intro p
  refine zY ?_ ?_
  ·refine go ?_
   exact ge [0,3,15] [] 1 rfl
  ·refine go ?_; intro x13 v'
   refine go ?_
   exact ge [0,3,15] [] 1 rfl
 ·rintro b _ rfl
  refine go ?_
  refine gc 6 (fun b_1 e'=>e'=⟨73,1,1,[(0,.pl (.one (.v (.sc (.string path))))),(3,.pl (.one (.v (.sc (.int .i64 (path.size:Int)))))),(22,.pl (.one (.v (.sc (.bool b_1)))))],[]⟩) ?_ ?_
  ·intro p
   refine zY ?_ ?_
   ·refine go ?_
    exact ge [0,3,22] [] 1 rfl
   ·refine go ?_; intro x20 v'
    refine go ?_
    exact ge [0,3,22] [] 1 rfl
  ·rintro b_1 _ rfl
   refine go ?_
   refine sp ?_ ?_
   ·exact gz
   ·refine go ?_
    refine jn (fun e'=>spec_PathOk_j1=some r'∧e'=⟨73,1,1,[],[]⟩) ?_ ?_
    ·refine go ?_
     refine lp (fun i e'=>e'=⟨73,1,1,[(0,.pl (.one (.v (.sc (.string path))))),(3,.pl (.one (.v (.sc (.int .i64 (path.size:Int)))))),(4,.pl (.one (.v (.sc (.int .i64 i)))))],[]⟩) [0,3,4] [] 1 rfl ?_
     rintro i _ rfl y1'
     change Tl _ (spec_PathOk_l1 path i) _ _; unfold spec_PathOk_l1
     refine sq ?_
     refine go ?_
     refine sp ?_ ?_
     ·refine go ?_
      refine sq ?_
      refine go ?_; intro x30 v'
      refine go ?_
      refine gc 3 (fun b_2 e'=>e'=⟨73,1,1,[(0,.pl (.one (.v (.sc (.string path))))),(3,.pl (.one (.v (.sc (.int .i64 (path.size:Int)))))),(4,.pl (.one (.v (.sc (.int .i64 i))))),(5,.pl (.one (.v (.sc (.int .u8 x30))))),(36,.pl (.one (.v (.sc (.bool b_2)))))],[]⟩) ?_ ?_
      ·intro p
       refine qT ?_ ?_
       ·refine go ?_
        exact ge [0,3,4,5,36] [] 1 rfl
       ·refine go ?_
        exact ge [0,3,4,5,36] [] 1 rfl
      ·rintro b_2 _ rfl
       refine go ?_
       refine gc 7 (fun b_3 e'=>e'=⟨73,1,1,[(0,.pl (.one (.v (.sc (.string path))))),(3,.pl (.one (.v (.sc (.int .i64 (path.size:Int)))))),(4,.pl (.one (.v (.sc (.int .i64 i))))),(5,.pl (.one (.v (.sc (.int .u8 x30))))),(44,.pl (.one (.v (.sc (.bool b_3)))))],[]⟩) ?_ ?_
       ·intro p
        refine zY ?_ ?_
        ·refine go ?_
         exact ge [0,3,4,5,44] [] 1 rfl
        ·refine go ?_
         refine gc 3 (fun b_4 e'=>e'=⟨73,1,1,[(0,.pl (.one (.v (.sc (.string path))))),(3,.pl (.one (.v (.sc (.int .i64 (path.size:Int)))))),(4,.pl (.one (.v (.sc (.int .i64 i))))),(5,.pl (.one (.v (.sc (.int .u8 x30))))),(37,.pl (.one (.v (.sc (.bool false))))),(38,.pl (.one (.v (.sc (.int .u8 x30))))),(39,.pl (.one (.v (.sc (.bool (decide (x30≥48))))))),(43,.pl (.one (.v (.sc (.bool b_4)))))],[]⟩) ?_ ?_
         ·intro p
          refine qT ?_ ?_
          ·refine go ?_
           exact ge [0,3,4,5,37,38,39,43] [] 1 rfl
          ·refine go ?_
           exact ge [0,3,4,5,37,38,39,43] [] 1 rfl
         ·rintro b_4 _ rfl
          refine go ?_
          exact ge [0,3,4,5,44] [] 1 rfl
       ·rintro b_3 _ rfl
        refine go ?_
        refine gc 3 (fun b_5 e'=>e'=⟨73,1,1,[(0,.pl (.one (.v (.sc (.string path))))),(3,.pl (.one (.v (.sc (.int .i64 (path.size:Int)))))),(4,.pl (.one (.v (.sc (.int .i64 i))))),(5,.pl (.one (.v (.sc (.int .u8 x30))))),(48,.pl (.one (.v (.sc (.bool b_5)))))],[]⟩) ?_ ?_
        ·intro p
         refine zY ?_ ?_
         ·refine go ?_
          exact ge [0,3,4,5,48] [] 1 rfl
         ·refine go ?_
          exact ge [0,3,4,5,48] [] 1 rfl
        ·rintro b_5 _ rfl
         refine go ?_
         refine gc 3 (fun b_6 e'=>e'=⟨73,1,1,[(0,.pl (.one (.v (.sc (.string path))))),(3,.pl (.one (.v (.sc (.int .i64 (path.size:Int)))))),(4,.pl (.one (.v (.sc (.int .i64 i))))),(5,.pl (.one (.v (.sc (.int .u8 x30))))),(52,.pl (.one (.v (.sc (.bool b_6)))))],[]⟩) ?_ ?_
         ·intro p
          refine zY ?_ ?_
          ·refine go ?_
           exact ge [0,3,4,5,52] [] 1 rfl
          ·refine go ?_
           exact ge [0,3,4,5,52] [] 1 rfl
         ·rintro b_6 _ rfl
          refine go ?_
          refine gc 3 (fun b_7 e'=>e'=⟨73,1,1,[(0,.pl (.one (.v (.sc (.string path))))),(3,.pl (.one (.v (.sc (.int .i64 (path.size:Int)))))),(4,.pl (.one (.v (.sc (.int .i64 i))))),(5,.pl (.one (.v (.sc (.int .u8 x30))))),(56,.pl (.one (.v (.sc (.bool b_7)))))],[]⟩) ?_ ?_
          ·intro p
           refine zY ?_ ?_
           ·refine go ?_
            exact ge [0,3,4,5,56] [] 1 rfl
           ·refine go ?_
            exact ge [0,3,4,5,56] [] 1 rfl
          ·rintro b_7 _ rfl
           refine go ?_
           refine gc 14 (fun b_8 e'=>e'=⟨73,1,1,[(0,.pl (.one (.v (.sc (.string path))))),(3,.pl (.one (.v (.sc (.int .i64 (path.size:Int)))))),(4,.pl (.one (.v (.sc (.int .i64 i))))),(72,.pl (.one (.v (.sc (.bool b_8)))))],[]⟩) ?_ ?_
           ·intro p
            refine zY ?_ ?_
            ·refine go ?_
             exact ge [0,3,4,72] [] 1 rfl
            ·refine go ?_
             refine gc 3 (fun b_9 e'=>e'=⟨73,1,1,[(0,.pl (.one (.v (.sc (.string path))))),(3,.pl (.one (.v (.sc (.int .i64 (path.size:Int)))))),(4,.pl (.one (.v (.sc (.int .i64 i))))),(58,.pl (.one (.v (.sc (.bool false))))),(59,.pl (.one (.v (.sc (.int .i64 i))))),(60,.pl (.one (.v (.sc (.bool (decide (i > 0))))))),(64,.pl (.one (.v (.sc (.bool b_9)))))],[]⟩) ?_ ?_
             ·intro p
              refine qT ?_ ?_
              ·refine go ?_
               exact ge [0,3,4,58,59,60,64] [] 1 rfl
              ·refine go ?_
               exact ge [0,3,4,58,59,60,64] [] 1 rfl
             ·rintro b_9 _ rfl
              refine go ?_
              refine gc 6 (fun b_10 e'=>e'=⟨73,1,1,[(0,.pl (.one (.v (.sc (.string path))))),(3,.pl (.one (.v (.sc (.int .i64 (path.size:Int)))))),(4,.pl (.one (.v (.sc (.int .i64 i))))),(58,.pl (.one (.v (.sc (.bool false))))),(59,.pl (.one (.v (.sc (.int .i64 i))))),(60,.pl (.one (.v (.sc (.bool (decide (i > 0))))))),(64,.pl (.one (.v (.sc (.bool b_9))))),(71,.pl (.one (.v (.sc (.bool b_10)))))],[]⟩) ?_ ?_
              ·intro p
               refine qT ?_ ?_
               ·refine go ?_; intro x69 v'
                refine go ?_
                exact ge [0,3,4,58,59,60,64,71] [] 1 rfl
               ·refine go ?_
                exact ge [0,3,4,58,59,60,64,71] [] 1 rfl
              ·rintro b_10 _ rfl
               refine go ?_
               exact ge [0,3,4,72] [] 1 rfl
           ·rintro b_8 _ rfl
            refine go ?_
            refine sp ?_ ?_
            ·exact gz
            ·refine go ?_
             exact bk [0,3,4] [] 1 rfl
     ·refine go ?_
      exact je [] [] 1 fun h=>⟨h,rfl⟩
    ·rintro e' ⟨h,rfl⟩; refine tl h ?_; unfold spec_PathOk_j1
     exact gz
end Go.TV.KFnStats
