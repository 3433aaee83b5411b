/- Walks. -/
import Derived.Test.YtbapbpnchdpbhaaGreatKFnRecordsE
import Derived.Test.YtbapbpnchdpbhaaGreatKFnRecordsW0
import Derived.Test.YtbapbpnchdpbhaaGreatKFnRecordsW1
set_option linter.unusedVariables false
set_option linter.unusedSimpArgs false
set_option maxHeartbeats 8000000
set_option maxRecDepth 100000
namespace Go.TV.KFnRecords
attribute [local irreducible] wpV opsV Does thenV blockV RetL quV seqV Cy lpP cutP cutQ
open Go.Proofs.Tryz Go.TV.F
instance W_laws_sameWeave:∀ a b,Wlk X (laws_sameWeave a b) 17 [] [.agg [.list false 1 (List.map (rL false 1 (rK .i64)) a.Parents),.list false 4 (List.map (zA false) a.Bodies)],.agg [.list false 1 (List.map (rL false 1 (rK .i64)) b.Parents),.list false 4 (List.map (zA false) b.Bodies)]] (fun r'=>[.one (.sc (.bool r'))]) (fun r'=>[]):=fun a b=>by
 refine ws f17 108 [.tmp 4] (h2 t3 (h2 t9 (h2 t24 (h2 t25 (h2 t27 (h2 t39 (h2 t46 (h2 R_Li64 (h2 zV R_i64))))))))) ?_
 intro r'; unfold laws_sameWeave
 refine go ?_
 refine sq ?_
 refine go ?_
 refine gc 8 (fun b_1 e'=>e'=⟨108,4,6,[(2,.pl (.one (.ref 4 []))),(3,.pl (.one (.ref 5 []))),(22,.pl (.one (.v (.sc (.bool b_1)))))],[(4,.box true [.list false 1 (List.map (rL false 1 (rK .i64)) a.Parents),.list false 4 (List.map (zA false) a.Bodies)]),(5,.box true [.list false 1 (List.map (rL false 1 (rK .i64)) b.Parents),.list false 4 (List.map (zA false) b.Bodies)])]⟩) ?_ ?_
 ·intro p
  refine opsV_spR ?_ ?_
  ·refine go ?_
   exact ge [2,3,22] [(4,4),(5,5)] 6 rfl
  ·refine go ?_
   exact ge [2,3,22] [(4,4),(5,5)] 6 rfl
 ·rintro b_1 _ rfl
  refine go ?_
  refine sp ?_ ?_
  ·exact gz
  ·refine go ?_
   refine jn (fun e'=>laws_sameWeave_j1 a b=some r'∧e'=⟨108,4,6,[(2,.pl (.one (.ref 4 []))),(3,.pl (.one (.ref 5 [])))],[(4,.box true [.list false 1 (List.map (rL false 1 (rK .i64)) a.Parents),.list false 4 (List.map (zA false) a.Bodies)]),(5,.box true [.list false 1 (List.map (rL false 1 (rK .i64)) b.Parents),.list false 4 (List.map (zA false) b.Bodies)])]⟩) ?_ ?_
   ·refine go ?_
    refine lp (fun v e'=>e'=⟨108,4,6,[(2,.pl (.one (.ref 4 []))),(3,.pl (.one (.ref 5 []))),(5,.pl (.one (.v (.sc (.int .i64 v)))))],[(4,.box true [.list false 1 (List.map (rL false 1 (rK .i64)) a.Parents),.list false 4 (List.map (zA false) a.Bodies)]),(5,.box true [.list false 1 (List.map (rL false 1 (rK .i64)) b.Parents),.list false 4 (List.map (zA false) b.Bodies)])]⟩) [2,3,5] [(4,4),(5,5)] 6 rfl ?_
    rintro v _ rfl y1'
    change Tl _ (laws_sameWeave_l2 a b v) _ _; unfold laws_sameWeave_l2
    refine sq ?_
    refine go ?_
    refine sp ?_ ?_
    ·refine go ?_
     refine sq ?_
     refine go ?_
     refine rq ?_
     refine go ?_; intro x_6 v'
     refine go ?_; intro x_7 v'
     refine go ?_; intro x40
     refine go ?_
     refine sp ?_ ?_
     ·exact gz
     ·refine go ?_
      exact bk [2,3,5] [(4,4),(5,5)] 6 rfl
    ·refine go ?_
     exact je [2,3] [(4,4),(5,5)] 6 fun h=>⟨h,rfl⟩
   ·rintro e' ⟨h,rfl⟩; refine tl h ?_; unfold laws_sameWeave_j1
    refine jn (fun e'=>laws_sameWeave_j2=some r'∧e'=⟨108,4,4,[],[]⟩) ?_ ?_
    ·refine go ?_
     refine lp (fun i e'=>e'=⟨108,4,6,[(2,.pl (.one (.ref 4 []))),(3,.pl (.one (.ref 5 []))),(6,.pl (.one (.v (.sc (.int .i64 i)))))],[(4,.box true [.list false 1 (List.map (rL false 1 (rK .i64)) a.Parents),.list false 4 (List.map (zA false) a.Bodies)]),(5,.box true [.list false 1 (List.map (rL false 1 (rK .i64)) b.Parents),.list false 4 (List.map (zA false) b.Bodies)])]⟩) [2,3,6] [(4,4),(5,5)] 6 rfl ?_
     rintro i _ rfl y1'
     change Tl _ (laws_sameWeave_l1 a b i) _ _; unfold laws_sameWeave_l1
     refine sq ?_
     refine go ?_
     refine sp ?_ ?_
     ·refine go ?_
      refine sq ?_
      refine go ?_
      refine rq ?_
      refine go ?_; intro x v'
      refine go ?_; intro x_1 v'
      refine go ?_
      refine qc 14 (fun b_2 e'=>e'=⟨108,4,6,[(2,.pl (.one (.ref 4 []))),(3,.pl (.one (.ref 5 []))),(6,.pl (.one (.v (.sc (.int .i64 i))))),(76,.pl (.one (.v (.sc (.bool b_2)))))],[(4,.box true [.list false 1 (List.map (rL false 1 (rK .i64)) a.Parents),.list false 4 (List.map (zA false) a.Bodies)]),(5,.box true [.list false 1 (List.map (rL false 1 (rK .i64)) b.Parents),.list false 4 (List.map (zA false) b.Bodies)])]⟩) ?_ ?_
      ·intro p
       refine quV_spR ?_ ?_
       ·refine go ?_
        exact ge [2,3,6,76] [(4,4),(5,5)] 6 rfl
       ·refine go ?_
        exact ge [2,3,6,76] [(4,4),(5,5)] 6 rfl
      ·rintro b_2 _ rfl
       refine go ?_
       refine qc 14 (fun b_3 e'=>e'=⟨108,4,6,[(2,.pl (.one (.ref 4 []))),(3,.pl (.one (.ref 5 []))),(6,.pl (.one (.v (.sc (.int .i64 i))))),(91,.pl (.one (.v (.sc (.bool b_3)))))],[(4,.box true [.list false 1 (List.map (rL false 1 (rK .i64)) a.Parents),.list false 4 (List.map (zA false) a.Bodies)]),(5,.box true [.list false 1 (List.map (rL false 1 (rK .i64)) b.Parents),.list false 4 (List.map (zA false) b.Bodies)])]⟩) ?_ ?_
       ·intro p
        refine quV_spR ?_ ?_
        ·refine go ?_
         exact ge [2,3,6,91] [(4,4),(5,5)] 6 rfl
        ·refine go ?_; intro x_2 v'
         refine go ?_; intro x_3 v'
         refine go ?_
         exact ge [2,3,6,91] [(4,4),(5,5)] 6 rfl
       ·rintro b_3 _ rfl
        refine go ?_
        refine qc 15 (fun b_4 e'=>e'=⟨108,4,6,[(2,.pl (.one (.ref 4 []))),(3,.pl (.one (.ref 5 []))),(6,.pl (.one (.v (.sc (.int .i64 i))))),(107,.pl (.one (.v (.sc (.bool b_4)))))],[(4,.box true [.list false 1 (List.map (rL false 1 (rK .i64)) a.Parents),.list false 4 (List.map (zA false) a.Bodies)]),(5,.box true [.list false 1 (List.map (rL false 1 (rK .i64)) b.Parents),.list false 4 (List.map (zA false) b.Bodies)])]⟩) ?_ ?_
        ·intro p
         refine quV_spR ?_ ?_
         ·refine go ?_
          exact ge [2,3,6,107] [(4,4),(5,5)] 6 rfl
         ·refine go ?_; intro x_4 v'
          refine go ?_; intro x_5 v'
          refine go ?_; intro x105
          refine go ?_
          exact ge [2,3,6,107] [(4,4),(5,5)] 6 rfl
        ·rintro b_4 _ rfl
         refine go ?_
         refine sp ?_ ?_
         ·exact gz
         ·refine go ?_
          exact bk [2,3,6] [(4,4),(5,5)] 6 rfl
     ·refine go ?_
      exact je [] [] 4 fun h=>⟨h,rfl⟩
    ·rintro e' ⟨h,rfl⟩; refine tl h ?_; unfold laws_sameWeave_j2
     exact gz
instance W_impl_set_list:∀ s,Wlk X (impl_set_list s) 79 [] [.one (.sc (.int .u64 s))] (fun r'=>[.one (.list true 1 (List.map (rK .i64) r'))]) (fun r'=>[]):=fun s=>by
 refine ws f79 17 [.tmp 2] (h2 t3 (h2 t39 R_i64)) ?_
 intro r'; unfold impl_set_list
 refine go ?_
 refine l1 ?_
 refine go ?_
 refine l1 ?_
 refine go ?_
 refine jn (fun e'=>∃ out_,impl_set_list_j1 out_=some r'∧e'=⟨17,1,2,[(3,.pl (.one (.ref 1 [])))],[(1,.list true 1 (List.map (rK .i64) out_))]⟩) ?_ ?_
 ·refine go ?_
  refine lp (fun s' e'=>∃ x5 out__1,s'=(x5,out__1)∧e'=⟨17,1,2,[(0,.pl (.one (.v (.sc (.int .u64 s))))),(3,.pl (.one (.ref 1 []))),(5,.pl (.one (.v (.sc (.int .i64 x5)))))],[(1,.list true 1 (List.map (rK .i64) out__1))]⟩) [0,3,5] [(2,1)] 2 ⟨_,_,rfl,rfl⟩ ?_
  rintro s' _ ⟨x5,out__1,rfl,rfl⟩ y1'
  change Tl _ (impl_set_list_l1 s x5 out__1) _ _; unfold impl_set_list_l1
  refine go ?_
  refine sq ?_
  refine go ?_
  refine sp ?_ ?_
  ·refine go ?_
   refine sq ?_
   refine go ?_; intro x10
   refine go ?_
   refine sp ?_ ?_
   ·refine go ?_; intro l v'
    refine go ?_
    exact bk [0,3,5] [(1,1)] 2 ⟨_,_,rfl,rfl⟩
   ·refine go ?_
    exact bk [0,3,5] [(1,1)] 2 ⟨_,_,rfl,rfl⟩
  ·refine go ?_
   exact je [3] [(1,1)] 2 fun h=>⟨_,h,rfl⟩
 ·rintro e' ⟨out_,h,rfl⟩; refine tl h ?_; unfold impl_set_list_j1
  exact gz
instance W_impl_ClosureOf:∀ parents v,Wlk X (impl_ClosureOf parents v) 19 [] [.one (.list false 1 (List.map (rL false 1 (rK .i64)) parents)),.one (.sc (.int .i64 v))] (fun r'=>[.one (.list true 1 (List.map (rK .i64) r'))]) (fun r'=>[]):=fun parents v=>by
 refine ws f19 21 [.tmp 4] (h2 t24 (h2 t124 (h2 t125 (h2 R_Li64 (h2 R_i64 R_u64))))) ?_
 intro r'; unfold impl_ClosureOf
 refine go ?_
 refine l1 ?_
 refine go ?_
 refine sq ?_
 refine go ?_; intro x8
 refine go ?_
 refine gc 4 (fun b e'=>e'=⟨21,2,2,[(0,.pl (.one (.v (.list false 1 (List.map (rL false 1 (rK .i64)) parents))))),(1,.pl (.one (.v (.sc (.int .i64 v))))),(14,.pl (.one (.v (.sc (.bool b)))))],[]⟩) ?_ ?_
 ·intro p
  refine opsV_spR ?_ ?_
  ·refine go ?_
   exact ge [0,1,14] [] 2 rfl
  ·refine go ?_; intro x12
   refine go ?_
   exact ge [0,1,14] [] 2 rfl
 ·rintro b _ rfl
  refine go ?_
  refine sp ?_ ?_
  ·refine go ?_
   refine l1 ?_
   exact gz
  ·refine go ?_; intro x16
   refine go ?_; intro x v'
   refine go ?_; intro x20
   exact gz
instance W_impl_walker_sees:∀ o set,Wlk X (impl_walker_sees o set) 77 [] [.one (.box false [.sc (.bool o.open_),.sc (.int .i64 o.ins),.list false 1 (List.map (rK .i64) o.dels)]),.one (.list false 1 (List.map (rK .i64) set))] (fun r'=>[.one (.sc (.bool r'))]) (fun r'=>[]):=fun o set=>by
 refine ws f77 27 [.tmp 4] (h2 t3 (h2 t39 (h2 t112 R_i64))) ?_
 intro r'; unfold impl_walker_sees
 refine go ?_
 refine sq ?_
 refine go ?_; intro x12
 refine go ?_
 refine sp ?_ ?_
 ·exact gz
 ·refine go ?_
  refine jn (fun e'=>impl_walker_sees_j1=some r'∧e'=⟨27,2,2,[],[]⟩) ?_ ?_
  ·refine go ?_
   refine lp (fun x19 e'=>e'=⟨27,2,2,[(1,.pl (.one (.v (.list false 1 (List.map (rK .i64) set))))),(17,.pl (.one (.v (.list false 1 (List.map (rK .i64) o.dels))))),(18,.pl (.one (.v (.sc (.int .i64 (o.dels.length:Int)))))),(19,.pl (.one (.v (.sc (.int .i64 x19)))))],[]⟩) [1,17,18,19] [] 2 rfl ?_
   rintro x19 _ rfl y1'
   change Tl _ (impl_walker_sees_l1 o set x19) _ _; unfold impl_walker_sees_l1
   refine go ?_
   refine sq ?_
   refine go ?_
   refine sp ?_ ?_
   ·refine go ?_
    refine sq ?_
    refine go ?_; intro x v'
    refine go ?_; intro x25
    refine go ?_
    refine sp ?_ ?_
    ·exact gz
    ·refine go ?_
     exact bk [1,17,18,19] [] 2 rfl
   ·refine go ?_
    exact je [] [] 2 fun h=>⟨h,rfl⟩
  ·rintro e' ⟨h,rfl⟩; refine tl h ?_; unfold impl_walker_sees_j1
   exact gz
instance W_impl_Walk:∀ list_ set,Wlk X (impl_Walk list_ set) 18 [] [.one (.list false 3 (List.map (zC true) list_)),.one (.list false 1 (List.map (rK .i64) set))] (fun r'=>[.one (.list true 1 (List.map rS r'.1)),.one (.sc (.bool r'.2))]) (fun r'=>[]):=fun list_ set=>by
 refine ws f18 45 [.tmp 4,.tmp 5] (h2 t3 (h2 t4 (h2 t9 (h2 t30 (h2 t36 (h2 t39 (h2 t112 (h2 t114 (h2 R_T_impl_Rec (h2 R_i64 R_s)))))))))) ?_
 intro r'; unfold impl_Walk
 refine go ?_
 refine l1 ?_
 refine go ?_
 refine sq ?_
 refine go ?_
 refine sp ?_ ?_
 ·refine go ?_
  refine l1 ?_
  exact gz
 ·refine go ?_
  refine l1 ?_
  refine go ?_
  refine l1 ?_
  refine go ?_
  refine jn (fun e'=>∃ out_ o o_1 o_2,impl_Walk_j1 out_ o o_1 o_2=some r'∧e'=⟨45,2,4,[(6,.pl (.one (.ref 2 []))),(7,.pl (.one (.ref 3 [])))],[(2,.list true 1 (List.map rS out_)),(3,.box true [.sc (.bool o),.sc (.int .i64 o_1),.list true 1 (List.map (rK .i64) o_2)])]⟩) ?_ ?_
  ·refine go ?_
   refine lp (fun s' e'=>∃ x16 out__1 o_3 o_4 o_5,s'=(x16,out__1,o_3,o_4,o_5)∧e'=⟨45,2,4,[(1,.pl (.one (.v (.list false 1 (List.map (rK .i64) set))))),(6,.pl (.one (.ref 2 []))),(7,.pl (.one (.ref 3 []))),(14,.pl (.one (.v (.list false 3 (List.map (zC true) list_))))),(15,.pl (.one (.v (.sc (.int .i64 (list_.length:Int)))))),(16,.pl (.one (.v (.sc (.int .i64 x16)))))],[(2,.list true 1 (List.map rS out__1)),(3,.box true [.sc (.bool o_3),.sc (.int .i64 o_4),.list true 1 (List.map (rK .i64) o_5)])]⟩) [1,6,7,14,15,16] [(3,2),(4,3)] 4 ⟨_,_,_,_,_,rfl,rfl⟩ ?_
   rintro s' _ ⟨x16,out__1,o_3,o_4,o_5,rfl,rfl⟩ y1'
   change Tl _ (impl_Walk_l1 list_ set x16 out__1 o_3 o_4 o_5) _ _; unfold impl_Walk_l1
   refine go ?_
   refine sq ?_
   refine go ?_
   refine sp ?_ ?_
   ·refine go ?_
    refine sq ?_
    refine go ?_; intro x v'
    refine go ?_
    refine l1 ?_
    refine go ?_
    refine sq ?_
    refine go ?_; intro x21
    refine go ?_
    refine sp ?_ ?_
    ·refine go ?_
     refine l1 ?_
     exact gz
    ·refine go ?_
     refine gc 3 (fun b_1 e'=>e'=⟨45,2,5,[(1,.pl (.one (.v (.list false 1 (List.map (rK .i64) set))))),(6,.pl (.one (.ref 2 []))),(7,.pl (.one (.ref 3 []))),(9,.pl (.one (.ref 4 []))),(14,.pl (.one (.v (.list false 3 (List.map (zC true) list_))))),(15,.pl (.one (.v (.sc (.int .i64 (list_.length:Int)))))),(16,.pl (.one (.v (.sc (.int .i64 x16))))),(29,.pl (.one (.v (.sc (.bool b_1)))))],[(2,.list true 1 (List.map rS out__1)),(3,.box true [.sc (.bool x21.2.open_),.sc (.int .i64 x21.2.ins),.list true 1 (List.map (rK .i64) x21.2.dels)]),(4,.box true [.sc (.int .i64 x.Kind),.sc (.int .i64 x.Version),.sc (.string x.Line)])]⟩) ?_ ?_
     ·intro p
      refine opsV_spL ?_ ?_
      ·refine go ?_; intro x28
       refine go ?_
       exact ge [1,6,7,9,14,15,16,29] [(2,2),(3,3),(4,4)] 5 rfl
      ·refine go ?_
       exact ge [1,6,7,9,14,15,16,29] [(2,2),(3,3),(4,4)] 5 rfl
     ·rintro b_1 _ rfl
      refine go ?_
      refine sp ?_ ?_
      ·refine go ?_; intro l v'
       refine go ?_
       exact bk [1,6,7,14,15,16] [(2,2),(3,3)] 4 ⟨_,_,_,_,_,rfl,rfl⟩
      ·refine go ?_
       exact bk [1,6,7,14,15,16] [(2,2),(3,3)] 4 ⟨_,_,_,_,_,rfl,rfl⟩
   ·refine go ?_
    exact je [6,7] [(2,2),(3,3)] 4 fun h=>⟨_,_,_,_,h,rfl⟩
  ·rintro e' ⟨out_,o,o_1,o_2,h,rfl⟩; refine tl h ?_; unfold impl_Walk_j1
   refine sq ?_
   refine go ?_
   refine gc 5 (fun b e'=>e'=⟨45,2,3,[(6,.pl (.one (.ref 2 []))),(43,.pl (.one (.v (.sc (.bool b)))))],[(2,.list true 1 (List.map rS out_))]⟩) ?_ ?_
   ·intro p
    refine opsV_spR ?_ ?_
    ·refine go ?_
     exact ge [6,43] [(2,2)] 3 rfl
    ·refine go ?_
     exact ge [6,43] [(2,2)] 3 rfl
   ·rintro b _ rfl
    refine go ?_
    refine sp ?_ ?_
    ·refine go ?_
     refine l1 ?_
     exact gz
    ·exact gz
instance W_impl_Weave_areVersions:∀ w list_,Wlk X (jE w list_) 191 [] [.one (.box false [.list false 1 (List.map (rL false 1 (rK .i64)) w.Parents),.list false 4 (List.map (zA false) w.Bodies)]),.one (.list false 1 (List.map (rK .i64) list_))] (fun r'=>[.one (.sc (.bool r'))]) (fun r'=>[]):=fun w list_=>by
 refine ws f191 22 [.tmp 4] (h2 t3 (h2 t24 (h2 t27 (h2 t39 (h2 R_Li64 (h2 zV R_i64)))))) ?_
 intro r'; unfold jE
 refine go ?_
 refine jn (fun e'=>impl_Weave_areVersions_j1=some r'∧e'=⟨22,2,2,[],[]⟩) ?_ ?_
 ·refine go ?_
  refine lp (fun x9 e'=>e'=⟨22,2,2,[(0,.pl (.one (.v (.box false [.list false 1 (List.map (rL false 1 (rK .i64)) w.Parents),.list false 4 (List.map (zA false) w.Bodies)])))),(7,.pl (.one (.v (.list false 1 (List.map (rK .i64) list_))))),(8,.pl (.one (.v (.sc (.int .i64 (list_.length:Int)))))),(9,.pl (.one (.v (.sc (.int .i64 x9)))))],[]⟩) [0,7,8,9] [] 2 rfl ?_
  rintro x9 _ rfl y1'
  change Tl _ (qX w list_ x9) _ _; unfold qX
  refine go ?_
  refine sq ?_
  refine go ?_
  refine sp ?_ ?_
  ·refine go ?_
   refine sq ?_
   refine go ?_; intro x v'
   refine go ?_; intro x19
   refine go ?_
   refine sp ?_ ?_
   ·exact gz
   ·refine go ?_
    exact bk [0,7,8,9] [] 2 rfl
  ·refine go ?_
   exact je [] [] 2 fun h=>⟨h,rfl⟩
 ·rintro e' ⟨h,rfl⟩; refine tl h ?_; unfold impl_Weave_areVersions_j1
  exact gz
instance W_impl_versionsCode:∀ w list_,Wlk X (impl_versionsCode w list_) 80 [] [.agg [.list false 1 (List.map (rL false 1 (rK .i64)) w.Parents),.list false 4 (List.map (zA false) w.Bodies)],.one (.list false 1 (List.map (rK .i64) list_))] (fun r'=>[.one (.sc (.int .i64 r'))]) (fun r'=>[]):=fun w list_=>by
 refine ws f80 13 [.tmp 4] (h2 t27 (h2 R_Li64 (h2 zV R_i64))) ?_
 intro r'; unfold impl_versionsCode
 refine go ?_
 refine sq ?_
 refine go ?_; intro x7
 refine go ?_
 refine sp ?_ ?_
 ·exact gz
 ·refine go ?_; intro x11
  refine go ?_
  refine sp ?_ ?_
  ·exact gz
  ·exact gz
instance W_impl_Weave_linesAt:∀ w places,Wlk X (impl_Weave_linesAt w places) 192 [] [.one (.box false [.list false 1 (List.map (rL false 1 (rK .i64)) w.Parents),.list false 4 (List.map (zA false) w.Bodies)]),.one (.list false 1 (List.map (rK .i64) places))] (fun r'=>[.one (.list true 1 (List.map rS r'))]) (fun r'=>[]):=fun w places=>by
 refine ws f192 27 [.tmp 4] (h2 t3 (h2 t9 (h2 t25 (h2 t27 (h2 t36 (h2 t39 (h2 t46 (h2 R_Li64 (h2 zV (h2 R_i64 R_s)))))))))) ?_
 intro r'; unfold impl_Weave_linesAt
 refine go ?_
 refine l1 ?_
 refine go ?_
 refine l1 ?_
 refine go ?_
 refine jn (fun e'=>∃ out_,impl_Weave_linesAt_j1 out_=some r'∧e'=⟨27,2,3,[(5,.pl (.one (.ref 2 [])))],[(2,.list true 1 (List.map rS out_))]⟩) ?_ ?_
 ·refine go ?_
  refine lp (fun s' e'=>∃ x10 out__1,s'=(x10,out__1)∧e'=⟨27,2,3,[(0,.pl (.one (.v (.box false [.list false 1 (List.map (rL false 1 (rK .i64)) w.Parents),.list false 4 (List.map (zA false) w.Bodies)])))),(5,.pl (.one (.ref 2 []))),(8,.pl (.one (.v (.list false 1 (List.map (rK .i64) places))))),(9,.pl (.one (.v (.sc (.int .i64 (places.length:Int)))))),(10,.pl (.one (.v (.sc (.int .i64 x10)))))],[(2,.list true 1 (List.map rS out__1))]⟩) [0,5,8,9,10] [(3,2)] 3 ⟨_,_,rfl,rfl⟩ ?_
  rintro s' _ ⟨x10,out__1,rfl,rfl⟩ y1'
  change Tl _ (qQ w places x10 out__1) _ _; unfold qQ
  refine go ?_
  refine sq ?_
  refine go ?_
  refine sp ?_ ?_
  ·refine go ?_
   refine sq ?_
   refine go ?_; intro x v'
   refine go ?_; intro x_1 v'
   refine go ?_; intro l v'
   refine go ?_
   exact bk [0,5,8,9,10] [(2,2)] 3 ⟨_,_,rfl,rfl⟩
  ·refine go ?_
   exact je [5] [(2,2)] 3 fun h=>⟨_,h,rfl⟩
 ·rintro e' ⟨out_,h,rfl⟩; refine tl h ?_; unfold impl_Weave_linesAt_j1
  exact gz
instance W_impl_Weave_extract:∀ w v,Wlk X (impl_Weave_extract w v) 81 [] [.one (.box false [.list false 1 (List.map (rL false 1 (rK .i64)) w.Parents),.list false 4 (List.map (zA false) w.Bodies)]),.one (.sc (.int .i64 v))] (fun r'=>[.one (.list true 1 (List.map rS r'))]) (fun r'=>[]):=fun w v=>by
 refine ws f81 17 [.tmp 4] (h2 t24 (h2 t27 (h2 t124 (h2 t125 (h2 R_Li64 (h2 zV (h2 R_i64 (h2 R_s R_u64)))))))) ?_
 intro r'; unfold impl_Weave_extract
 refine go ?_
 refine l1 ?_
 refine go ?_; intro x11
 refine go ?_; intro x v'
 refine go ?_; intro x15
 refine go ?_; intro x16
 exact gz
instance W_impl_Extract:∀ w v,Wlk X (impl_Extract w v) 20 [] [.agg [.list false 1 (List.map (rL false 1 (rK .i64)) w.Parents),.list false 4 (List.map (zA false) w.Bodies)],.one (.sc (.int .i64 v))] (fun r'=>[.one (.list true 1 (List.map rS r'.1)),.one (.sc (.int .i64 r'.2))]) (fun r'=>[]):=fun w v=>by
 refine ws f20 16 [.tmp 4,.tmp 5] (h2 t3 (h2 t27 (h2 t39 (h2 R_Li64 (h2 zV (h2 R_i64 R_s)))))) ?_
 intro r'; unfold impl_Extract
 refine go ?_
 refine l1 ?_
 refine go ?_
 refine sq ?_
 refine go ?_; intro x10
 refine go ?_
 refine sp ?_ ?_
 ·refine go ?_
  refine l1 ?_
  exact gz
 ·refine go ?_; intro x15
  exact gz
instance W_laws_sameTexts:∀ a b,Wlk X (laws_sameTexts a b) 21 [] [.one (.list false 1 (List.map rS a)),.one (.list false 1 (List.map rS b))] (fun r'=>[.one (.sc (.bool r'))]) (fun r'=>[]):=fun a b=>by
 refine ws f21 26 [.tmp 4] (h2 t3 (h2 t9 (h2 t36 R_s))) ?_
 intro r'; unfold laws_sameTexts
 refine go ?_
 refine sq ?_
 refine go ?_
 refine sp ?_ ?_
 ·exact gz
 ·refine go ?_
  refine jn (fun e'=>laws_sameTexts_j1=some r'∧e'=⟨26,2,2,[],[]⟩) ?_ ?_
  ·refine go ?_
   refine lp (fun i e'=>e'=⟨26,2,2,[(0,.pl (.one (.v (.list false 1 (List.map rS a))))),(1,.pl (.one (.v (.list false 1 (List.map rS b))))),(5,.pl (.one (.v (.sc (.int .i64 i)))))],[]⟩) [0,1,5] [] 2 rfl ?_
   rintro i _ rfl y1'
   change Tl _ (laws_sameTexts_l1 a b i) _ _; unfold laws_sameTexts_l1
   refine sq ?_
   refine go ?_
   refine sp ?_ ?_
   ·refine go ?_
    refine sq ?_
    refine go ?_
    refine rq ?_
    refine go ?_; intro x v'
    refine go ?_; intro x_1 v'
    refine go ?_
    refine sp ?_ ?_
    ·exact gz
    ·refine go ?_
     exact bk [0,1,5] [] 2 rfl
   ·refine go ?_
    exact je [] [] 2 fun h=>⟨h,rfl⟩
  ·rintro e' ⟨h,rfl⟩; refine tl h ?_; unfold laws_sameTexts_j1
   exact gz
instance W_impl_LiveIn:∀ w set,Wlk X (impl_LiveIn w set) 22 [] [.agg [.list false 1 (List.map (rL false 1 (rK .i64)) w.Parents),.list false 4 (List.map (zA false) w.Bodies)],.one (.list false 1 (List.map (rK .i64) set))] (fun r'=>[.one (.list true 1 (List.map (rK .i64) r'))]) (fun r'=>[]):=fun w set=>by
 refine ws f22 11 [.tmp 4] (h2 t27 (h2 R_Li64 (h2 zV R_i64))) ?_
 intro r'; unfold impl_LiveIn
 refine go ?_
 refine l1 ?_
 refine go ?_
 refine sq ?_
 refine go ?_; intro x6
 refine go ?_
 refine sp ?_ ?_
 ·refine go ?_
  refine l1 ?_
  exact gz
 ·refine go ?_; intro x9
  refine go ?_; intro x10
  exact gz
instance W_laws_FnRecords:∀ code,Wlk X (laws_FnRecords code) 3 [] [.one (.list false 1 (List.map (rK .u8) code))] (fun r'=>[.one (.sc (.bool r'))]) (fun r'=>[]):=fun code=>by
 refine ws f3 119 [.tmp 2] (h2 t3 (h2 t9 (h2 t24 (h2 t25 (h2 t27 (h2 t36 (h2 t39 (h2 t46 (h2 R_Li64 (h2 zV (h2 R_T_impl_Rec (h2 R_i64 (h2 R_s R_u8))))))))))))) ?_
 intro r'; unfold laws_FnRecords
 refine go ?_
 refine sq ?_
 refine go ?_; intro x20
 refine go ?_
 refine sp ?_ ?_
 ·exact gz
 ·refine go ?_; intro x23
  refine go ?_
  refine l1 ?_
  refine go ?_; intro x29
  refine go ?_; intro x36
  refine go ?_
  refine l1 ?_
  refine go ?_
  refine sq ?_
  refine go ?_
  refine gc 3 (fun b e'=>e'=⟨119,1,4,[(3,.pl (.one (.ref 1 []))),(4,.pl (.one (.v (.sc (.int .i64 x23.2.1))))),(5,.pl (.one (.v (.sc (.int .i64 x23.2.2))))),(6,.pl (.one (.ref 2 []))),(8,.pl (.one (.ref 3 []))),(44,.pl (.one (.v (.sc (.bool b)))))],[(1,.box true [.list true 1 (List.map (rL true 1 (rK .i64)) x23.1.Parents),.list true 4 (List.map (zA true) x23.1.Bodies)]),(2,.list true 3 (List.map (zC true) x29.1)),(3,.box true [.list true 1 (List.map (rL true 1 (rK .i64)) x36.1.Parents),.list true 4 (List.map (zA true) x36.1.Bodies)])]⟩) ?_ ?_
  ·intro p
   refine opsV_spR ?_ ?_
   ·refine go ?_
    exact ge [3,4,5,6,8,44] [(6,1),(7,2),(12,3)] 4 rfl
   ·refine go ?_
    exact ge [3,4,5,6,8,44] [(6,1),(7,2),(12,3)] 4 rfl
  ·rintro b _ rfl
   refine go ?_
   refine gc 5 (fun b_1 e'=>e'=⟨119,1,3,[(3,.pl (.one (.ref 1 []))),(4,.pl (.one (.v (.sc (.int .i64 x23.2.1))))),(5,.pl (.one (.v (.sc (.int .i64 x23.2.2))))),(6,.pl (.one (.ref 2 []))),(50,.pl (.one (.v (.sc (.bool b_1)))))],[(1,.box true [.list true 1 (List.map (rL true 1 (rK .i64)) x23.1.Parents),.list true 4 (List.map (zA true) x23.1.Bodies)]),(2,.list true 3 (List.map (zC true) x29.1))]⟩) ?_ ?_
   ·intro p
    refine opsV_spR ?_ ?_
    ·refine go ?_
     exact ge [3,4,5,6,50] [(1,1),(2,2)] 3 rfl
    ·refine go ?_; intro x48
     refine go ?_
     exact ge [3,4,5,6,50] [(1,1),(2,2)] 3 rfl
   ·rintro b_1 _ rfl
    refine go ?_
    refine sp ?_ ?_
    ·exact gz
    ·refine go ?_; intro x56
     refine go ?_; intro x57
     refine go ?_; intro x63
     refine go ?_
     refine sq ?_
     refine go ?_
     refine gc 3 (fun b_2 e'=>e'=⟨119,1,5,[(3,.pl (.one (.ref 1 []))),(4,.pl (.one (.v (.sc (.int .i64 x23.2.1))))),(5,.pl (.one (.v (.sc (.int .i64 x23.2.2))))),(6,.pl (.one (.ref 2 []))),(10,.pl (.one (.ref 3 []))),(12,.pl (.one (.ref 4 []))),(71,.pl (.one (.v (.sc (.bool b_2)))))],[(1,.box true [.list true 1 (List.map (rL true 1 (rK .i64)) x23.1.Parents),.list true 4 (List.map (zA true) x23.1.Bodies)]),(2,.list true 3 (List.map (zC true) x29.1)),(3,.list true 1 (List.map rS x57.1)),(4,.list true 1 (List.map rS x63.1))]⟩) ?_ ?_
     ·intro p
      refine opsV_spR ?_ ?_
      ·refine go ?_
       exact ge [3,4,5,6,10,12,71] [(1,1),(2,2),(4,3),(6,4)] 5 rfl
      ·refine go ?_
       exact ge [3,4,5,6,10,12,71] [(1,1),(2,2),(4,3),(6,4)] 5 rfl
     ·rintro b_2 _ rfl
      refine go ?_
      refine gc 5 (fun b_3 e'=>e'=⟨119,1,3,[(3,.pl (.one (.ref 1 []))),(4,.pl (.one (.v (.sc (.int .i64 x23.2.1))))),(5,.pl (.one (.v (.sc (.int .i64 x23.2.2))))),(6,.pl (.one (.ref 2 []))),(77,.pl (.one (.v (.sc (.bool b_3)))))],[(1,.box true [.list true 1 (List.map (rL true 1 (rK .i64)) x23.1.Parents),.list true 4 (List.map (zA true) x23.1.Bodies)]),(2,.list true 3 (List.map (zC true) x29.1))]⟩) ?_ ?_
      ·intro p
       refine opsV_spR ?_ ?_
       ·refine go ?_
        exact ge [3,4,5,6,77] [(1,1),(2,2)] 3 rfl
       ·refine go ?_; intro x75
        refine go ?_
        exact ge [3,4,5,6,77] [(1,1),(2,2)] 3 rfl
      ·rintro b_3 _ rfl
       refine go ?_
       refine sp ?_ ?_
       ·exact gz
       ·refine go ?_; intro x84
        refine go ?_; intro x89
        refine go ?_
        refine sq ?_
        refine go ?_
        refine gc 6 (fun b_4 e'=>e'=⟨119,1,4,[(3,.pl (.one (.ref 1 []))),(15,.pl (.one (.ref 2 []))),(17,.pl (.one (.ref 3 []))),(98,.pl (.one (.v (.sc (.bool b_4)))))],[(1,.box true [.list true 1 (List.map (rL true 1 (rK .i64)) x23.1.Parents),.list true 4 (List.map (zA true) x23.1.Bodies)]),(2,.list true 1 (List.map rS x84.1)),(3,.list true 1 (List.map (rK .i64) x89))]⟩) ?_ ?_
        ·intro p
         refine opsV_spR ?_ ?_
         ·refine go ?_
          exact ge [3,15,17,98] [(1,1),(4,2),(6,3)] 4 rfl
         ·refine go ?_
          exact ge [3,15,17,98] [(1,1),(4,2),(6,3)] 4 rfl
        ·rintro b_4 _ rfl
         refine go ?_
         refine sp ?_ ?_
         ·exact gz
         ·refine go ?_
          refine jn (fun e'=>laws_FnRecords_j1=some r'∧e'=⟨119,1,1,[],[]⟩) ?_ ?_
          ·refine go ?_
           refine lp (fun i e'=>e'=⟨119,1,4,[(3,.pl (.one (.ref 1 []))),(15,.pl (.one (.ref 2 []))),(17,.pl (.one (.ref 3 []))),(18,.pl (.one (.v (.sc (.int .i64 i)))))],[(1,.box true [.list true 1 (List.map (rL true 1 (rK .i64)) x23.1.Parents),.list true 4 (List.map (zA true) x23.1.Bodies)]),(2,.list true 1 (List.map rS x84.1)),(3,.list true 1 (List.map (rK .i64) x89))]⟩) [3,15,17,18] [(1,1),(2,2),(3,3)] 4 rfl ?_
           rintro i _ rfl y1'
           change Tl _ (laws_FnRecords_l1 x23 x84 x89 i) _ _; unfold laws_FnRecords_l1
           refine sq ?_
           refine go ?_
           refine sp ?_ ?_
           ·refine go ?_
            refine sq ?_
            refine go ?_
            refine rq ?_
            refine go ?_; intro x v'
            refine go ?_; intro x_1 v'
            refine go ?_; intro x_2 v'
            refine go ?_
            refine sp ?_ ?_
            ·exact gz
            ·refine go ?_
             exact bk [3,15,17,18] [(1,1),(2,2),(3,3)] 4 rfl
           ·refine go ?_
            exact je [] [] 1 fun h=>⟨h,rfl⟩
          ·rintro e' ⟨h,rfl⟩; refine tl h ?_; unfold laws_FnRecords_j1
           exact gz
end Go.TV.KFnRecords
