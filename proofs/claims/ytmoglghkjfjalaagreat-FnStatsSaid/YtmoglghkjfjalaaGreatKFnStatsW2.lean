/- Walks. -/
import Derived.Test.YtmoglghkjfjalaaGreatKFnStatsE
import Derived.Test.YtmoglghkjfjalaaGreatKFnStatsW0
import Derived.Test.YtmoglghkjfjalaaGreatKFnStatsW1
set_option linter.unusedVariables false
set_option linter.unusedSimpArgs false
set_option maxHeartbeats 8000000
set_option maxRecDepth 100000
namespace Go.TV.KFnStats
attribute [local irreducible] wpV opsV Does thenV blockV RetL quV seqV Cy lpP cutP cutQ
open Go.Proofs.Tryz Go.TV.F
theorem W_strings_Contains (s:ByteArray) (x:ByteArray) (r':Bool) (h0':strings_Contains s x=some r'):Fn X 258 [.one (.sc (.string s)),.one (.sc (.string x))] [.one (.sc (.bool r'))] []:=by
 unfold strings_Contains at h0'
 split at h0'
 case isFalse=>cases h0'
 rename_i hs
 obtain rfl:=zso h0'
 exact Fn_pureB ⟨_,Go.Proofs.Tryz.func258,rfl,rfl⟩ (fun w hg=>by
  obtain ⟨y,hy,hy2⟩:=hg _ _ (by rfl:X.G (Go.Proofs.Tryz.lays144_ren.g 1)=some isNum)
  obtain ⟨m,hm⟩:=isNum_cell hy hy2
  exact Go.Proofs.Any.strings_Contains {Go.Proofs.Tryz.lays144 with} s x m w hs hm)
instance:∀ s x,Wlk X (strings_Contains s x) 258 [] [.one (.sc (.string s)),.one (.sc (.string x))] (fun r'=>[.one (.sc (.bool r'))]) (fun r'=>[]):=fun s x=>⟨fun r' h=>W_strings_Contains s x r' h⟩
instance W_impl_LineOk:∀ line,Wlk X (impl_LineOk line) 238 [] [.one (.sc (.string line))] (fun r'=>[.one (.sc (.bool r'))]) (fun r'=>[]):=fun line=>by
 refine ws f238 11 [.tmp 2] (h2 t3 t9) ?_
 intro r'; unfold impl_LineOk
 refine go ?_
 refine gc 4 (fun b e'=>e'=⟨11,1,1,[(10,.pl (.one (.v (.sc (.bool b)))))],[]⟩) ?_ ?_
 ·intro p
  refine qT ?_ ?_
  ·refine go ?_; intro x8
   refine go ?_
   exact ge [10] [] 1 rfl
  ·refine go ?_
   exact ge [10] [] 1 rfl
 ·rintro b _ rfl
  exact gz
instance W_impl_isPlace:∀ n size,Wlk X (impl_isPlace n size) 82 [] [.one (.sc (.int .i64 n)),.one (.sc (.int .i64 size))] (fun r'=>[.one (.sc (.bool r'))]) (fun r'=>[]):=fun n size=>by
 refine ws f82 9 [.tmp 4] t3 ?_
 intro r'; unfold impl_isPlace
 refine go ?_; intro x8
 exact gz
instance W_impl_set_has:∀ s v,Wlk X (impl_set_has s v) 186 [] [.one (.sc (.int .u64 s)),.one (.sc (.int .i64 v))] (fun r'=>[.one (.sc (.bool r'))]) (fun r'=>[]):=fun s v=>by
 refine ws f186 15 [.tmp 4] (h2 t3 (h2 t136 t239)) ?_
 intro r'; unfold impl_set_has
 refine go ?_; intro x6
 refine go ?_
 refine gc 7 (fun b e'=>e'=⟨15,2,2,[(14,.pl (.one (.v (.sc (.bool b)))))],[]⟩) ?_ ?_
 ·intro p
  refine qT ?_ ?_
  ·refine go ?_; intro u v'
   refine go ?_
   exact ge [14] [] 2 rfl
  ·refine go ?_
   exact ge [14] [] 2 rfl
 ·rintro b _ rfl
  exact gz
instance W_impl_setOf:∀ list_,Wlk X (impl_setOf list_) 92 [] [.one (.list false 1 (List.map (rK .i64) list_))] (fun r'=>[.one (.sc (.int .u64 r'))]) (fun r'=>[]):=fun list_=>by
 refine ws f92 21 [.tmp 2] (h2 t3 (h2 t40 (h2 t136 (h2 t239 R_i64)))) ?_
 intro r'; unfold impl_setOf
 refine go ?_
 refine jn (fun e'=>∃ s,impl_setOf_j1 s=some r'∧e'=⟨21,1,1,[(3,.pl (.one (.v (.sc (.int .u64 s)))))],[]⟩) ?_ ?_
 ·refine go ?_
  refine lp (fun s' e'=>∃ s_1 x8,s'=(s_1,x8)∧e'=⟨21,1,1,[(3,.pl (.one (.v (.sc (.int .u64 s_1))))),(6,.pl (.one (.v (.list false 1 (List.map (rK .i64) list_))))),(7,.pl (.one (.v (.sc (.int .i64 (list_.length:Int)))))),(8,.pl (.one (.v (.sc (.int .i64 x8)))))],[]⟩) [3,6,7,8] [] 1 ⟨_,_,rfl,rfl⟩ ?_
  rintro s' _ ⟨s_1,x8,rfl,rfl⟩ y1'
  change Tl _ (impl_setOf_l1 list_ s_1 x8) _ _; unfold impl_setOf_l1
  refine go ?_
  refine sq ?_
  refine go ?_
  refine sp ?_ ?_
  ·refine go ?_
   refine sq ?_
   refine go ?_; intro x v'
   refine go ?_; intro x13
   refine go ?_
   refine sp ?_ ?_
   ·refine go ?_; intro u v'
    refine go ?_
    exact bk [3,6,7,8] [] 1 ⟨_,_,rfl,rfl⟩
   ·refine go ?_
    exact bk [3,6,7,8] [] 1 ⟨_,_,rfl,rfl⟩
  ·refine go ?_
   exact je [3] [] 1 fun h=>⟨_,h,rfl⟩
 ·rintro e' ⟨s,h,rfl⟩; refine tl h ?_; unfold impl_setOf_j1
  exact gz
instance W_impl_Body_isLive:∀ b s,Wlk X (impl_Body_isLive b s) 188 [] [.agg [.sc (.string b.Line),.sc (.int .i64 b.Ins),.sc (.int .i64 b.Ord),.list false 1 (List.map (rK .i64) b.Dels)],.one (.sc (.int .u64 s))] (fun r'=>[.one (.sc (.bool r'))]) (fun r'=>[]):=fun b s=>by
 refine ws f188 17 [.tmp 4] (h2 t3 (h2 t40 (h2 t73 (h2 t136 R_i64)))) ?_
 intro r'; unfold impl_Body_isLive
 refine go ?_; intro x8
 refine go ?_
 refine gc 7 (fun b_1 e'=>e'=⟨17,5,5,[(16,.pl (.one (.v (.sc (.bool b_1)))))],[]⟩) ?_ ?_
 ·intro p
  refine qT ?_ ?_
  ·refine go ?_; intro x12
   refine go ?_
   exact ge [16] [] 5 rfl
  ·refine go ?_
   exact ge [16] [] 5 rfl
 ·rintro b_1 _ rfl
  exact gz
instance W_impl_Weave_liveIn:∀ w s,Wlk X (impl_Weave_liveIn w s) 91 [] [.one (.box false [.list false 1 (List.map (rL false 1 (rK .i64)) w.Parents),.list false 4 (List.map (zC false) w.Bodies)]),.one (.sc (.int .u64 s))] (fun r'=>[.one (.list true 1 (List.map (rK .i64) r'))]) (fun r'=>[]):=fun w s=>by
 refine ws f91 27 [.tmp 4] (h2 t3 (h2 t34 (h2 t36 (h2 t40 (h2 t73 (h2 qX (h2 zS R_i64))))))) ?_
 intro r'; unfold impl_Weave_liveIn
 refine go ?_
 refine l1 ?_
 refine go ?_
 refine l1 ?_
 refine go ?_
 refine jn (fun e'=>∃ out_,impl_Weave_liveIn_j1 out_=some r'∧e'=⟨27,2,3,[(5,.pl (.one (.ref 2 [])))],[(2,.list true 1 (List.map (rK .i64) out_))]⟩) ?_ ?_
 ·refine go ?_
  refine lp (fun s' e'=>∃ x13 out__1,s'=(x13,out__1)∧e'=⟨27,2,3,[(1,.pl (.one (.v (.sc (.int .u64 s))))),(5,.pl (.one (.ref 2 []))),(11,.pl (.one (.v (.list false 4 (List.map (zC false) w.Bodies))))),(12,.pl (.one (.v (.sc (.int .i64 (w.Bodies.length:Int)))))),(13,.pl (.one (.v (.sc (.int .i64 x13)))))],[(2,.list true 1 (List.map (rK .i64) out__1))]⟩) [1,5,11,12,13] [(3,2)] 3 ⟨_,_,rfl,rfl⟩ ?_
  rintro s' _ ⟨x13,out__1,rfl,rfl⟩ y1'
  change Tl _ (jO w s x13 out__1) _ _; unfold jO
  refine go ?_
  refine sq ?_
  refine go ?_
  refine sp ?_ ?_
  ·refine go ?_
   refine sq ?_
   refine go ?_; intro x v'
   refine go ?_
   refine l1 ?_
   refine go ?_; intro x20
   refine go ?_
   refine sp ?_ ?_
   ·refine go ?_; intro l v'
    refine go ?_
    exact bk [1,5,11,12,13] [(2,2)] 3 ⟨_,_,rfl,rfl⟩
   ·refine go ?_
    exact bk [1,5,11,12,13] [(2,2)] 3 ⟨_,_,rfl,rfl⟩
  ·refine go ?_
   exact je [5] [(2,2)] 3 fun h=>⟨_,h,rfl⟩
 ·rintro e' ⟨out_,h,rfl⟩; refine tl h ?_; unfold impl_Weave_liveIn_j1
  exact gz
instance W_impl_bodiesOk:∀ w closed,Wlk X (impl_bodiesOk w closed) 176 [] [.agg [.list false 1 (List.map (rL false 1 (rK .i64)) w.Parents),.list false 4 (List.map (zC false) w.Bodies)],.one (.list false 1 (List.map (rK .u64) closed))] (fun r'=>[.one (.sc (.bool r'))]) (fun r'=>[]):=fun w closed=>by
 refine ws f176 97 [.tmp 4] (h2 t3 (h2 t9 (h2 t33 (h2 t34 (h2 t36 (h2 t40 (h2 t73 (h2 t136 (h2 t137 (h2 qX (h2 zS (h2 R_i64 R_u64)))))))))))) ?_
 intro r'; unfold impl_bodiesOk
 refine go ?_; intro x14 v'
 refine go ?_
 refine jn (fun e'=>∃ born,impl_bodiesOk_j1 w closed born=some r'∧e'=⟨97,3,5,[(1,.pl (.one (.v (.list false 1 (List.map (rK .u64) closed))))),(2,.pl (.one (.ref 3 []))),(5,.pl (.one (.ref 4 [])))],[(3,.box true [.list false 1 (List.map (rL false 1 (rK .i64)) w.Parents),.list false 4 (List.map (zC false) w.Bodies)]),(4,.list true 1 (List.map (rK .i64) born))]⟩) ?_ ?_
 ·refine go ?_
  refine lp (fun s' e'=>∃ x18 born_1,s'=(x18,born_1)∧e'=⟨97,3,5,[(1,.pl (.one (.v (.list false 1 (List.map (rK .u64) closed))))),(2,.pl (.one (.ref 3 []))),(5,.pl (.one (.ref 4 []))),(16,.pl (.one (.v (.list false 4 (List.map (zC false) w.Bodies))))),(17,.pl (.one (.v (.sc (.int .i64 (w.Bodies.length:Int)))))),(18,.pl (.one (.v (.sc (.int .i64 x18)))))],[(3,.box true [.list false 1 (List.map (rL false 1 (rK .i64)) w.Parents),.list false 4 (List.map (zC false) w.Bodies)]),(4,.list true 1 (List.map (rK .i64) born_1))]⟩) [1,2,5,16,17,18] [(3,3),(4,4)] 5 ⟨_,_,rfl,rfl⟩ ?_
  rintro s' _ ⟨x18,born_1,rfl,rfl⟩ y1'
  change Tl _ (jK w closed x18 born_1) _ _; unfold jK
  refine go ?_
  refine sq ?_
  refine go ?_
  refine sp ?_ ?_
  ·refine go ?_
   refine jn (fun e'=>∃ born_2,impl_bodiesOk_j3 x18 born_2=some y1'∧e'=⟨97,3,5,[(1,.pl (.one (.v (.list false 1 (List.map (rK .u64) closed))))),(2,.pl (.one (.ref 3 []))),(5,.pl (.one (.ref 4 []))),(16,.pl (.one (.v (.list false 4 (List.map (zC false) w.Bodies))))),(17,.pl (.one (.v (.sc (.int .i64 (w.Bodies.length:Int)))))),(18,.pl (.one (.v (.sc (.int .i64 x18)))))],[(3,.box true [.list false 1 (List.map (rL false 1 (rK .i64)) w.Parents),.list false 4 (List.map (zC false) w.Bodies)]),(4,.list true 1 (List.map (rK .i64) born_2))]⟩) ?_ ?_
   ·refine go ?_; intro x_2 v'
    refine go ?_
    refine l1 ?_
    refine go ?_
    refine sq ?_
    refine go ?_
    refine rq ?_
    refine go ?_; intro x24
    refine go ?_
    refine qc 7 (fun b_1 e'=>e'=⟨97,3,6,[(1,.pl (.one (.v (.list false 1 (List.map (rK .u64) closed))))),(2,.pl (.one (.ref 3 []))),(5,.pl (.one (.ref 4 []))),(7,.pl (.one (.ref 5 []))),(16,.pl (.one (.v (.list false 4 (List.map (zC false) w.Bodies))))),(17,.pl (.one (.v (.sc (.int .i64 (w.Bodies.length:Int)))))),(18,.pl (.one (.v (.sc (.int .i64 x18))))),(33,.pl (.one (.v (.sc (.bool b_1)))))],[(3,.box true [.list false 1 (List.map (rL false 1 (rK .i64)) w.Parents),.list false 4 (List.map (zC false) w.Bodies)]),(4,.list true 1 (List.map (rK .i64) born_1)),(5,.box true [.sc (.string x_2.Line),.sc (.int .i64 x_2.Ins),.sc (.int .i64 x_2.Ord),.list false 1 (List.map (rK .i64) x_2.Dels)])]⟩) ?_ ?_
    ·intro p
     refine quV_spR ?_ ?_
     ·refine go ?_
      exact ge [1,2,5,7,16,17,18,33] [(3,3),(4,4),(5,5)] 6 rfl
     ·refine go ?_; intro x31
      refine go ?_
      exact ge [1,2,5,7,16,17,18,33] [(3,3),(4,4),(5,5)] 6 rfl
    ·rintro b_1 _ rfl
     refine go ?_
     refine qc 9 (fun b_2 e'=>e'=⟨97,3,6,[(1,.pl (.one (.v (.list false 1 (List.map (rK .u64) closed))))),(2,.pl (.one (.ref 3 []))),(5,.pl (.one (.ref 4 []))),(7,.pl (.one (.ref 5 []))),(16,.pl (.one (.v (.list false 4 (List.map (zC false) w.Bodies))))),(17,.pl (.one (.v (.sc (.int .i64 (w.Bodies.length:Int)))))),(18,.pl (.one (.v (.sc (.int .i64 x18))))),(43,.pl (.one (.v (.sc (.bool b_2)))))],[(3,.box true [.list false 1 (List.map (rL false 1 (rK .i64)) w.Parents),.list false 4 (List.map (zC false) w.Bodies)]),(4,.list true 1 (List.map (rK .i64) born_1)),(5,.box true [.sc (.string x_2.Line),.sc (.int .i64 x_2.Ins),.sc (.int .i64 x_2.Ord),.list false 1 (List.map (rK .i64) x_2.Dels)])]⟩) ?_ ?_
     ·intro p
      refine quV_spR ?_ ?_
      ·refine go ?_
       exact ge [1,2,5,7,16,17,18,43] [(3,3),(4,4),(5,5)] 6 rfl
      ·refine go ?_; intro x_3 v'
       refine go ?_
       exact ge [1,2,5,7,16,17,18,43] [(3,3),(4,4),(5,5)] 6 rfl
     ·rintro b_2 _ rfl
      refine go ?_
      refine qc 7 (fun b_3 e'=>e'=⟨97,3,6,[(1,.pl (.one (.v (.list false 1 (List.map (rK .u64) closed))))),(2,.pl (.one (.ref 3 []))),(5,.pl (.one (.ref 4 []))),(7,.pl (.one (.ref 5 []))),(16,.pl (.one (.v (.list false 4 (List.map (zC false) w.Bodies))))),(17,.pl (.one (.v (.sc (.int .i64 (w.Bodies.length:Int)))))),(18,.pl (.one (.v (.sc (.int .i64 x18))))),(51,.pl (.one (.v (.sc (.bool b_3)))))],[(3,.box true [.list false 1 (List.map (rL false 1 (rK .i64)) w.Parents),.list false 4 (List.map (zC false) w.Bodies)]),(4,.list true 1 (List.map (rK .i64) born_1)),(5,.box true [.sc (.string x_2.Line),.sc (.int .i64 x_2.Ins),.sc (.int .i64 x_2.Ord),.list false 1 (List.map (rK .i64) x_2.Dels)])]⟩) ?_ ?_
      ·intro p
       refine quV_spR ?_ ?_
       ·refine go ?_
        exact ge [1,2,5,7,16,17,18,51] [(3,3),(4,4),(5,5)] 6 rfl
       ·refine go ?_; intro x49
        refine go ?_
        exact ge [1,2,5,7,16,17,18,51] [(3,3),(4,4),(5,5)] 6 rfl
      ·rintro b_3 _ rfl
       refine go ?_
       refine sp ?_ ?_
       ·exact gz
       ·refine go ?_; intro x_4 v'
        refine go ?_
        refine lp (fun x62 e'=>e'=⟨97,3,6,[(1,.pl (.one (.v (.list false 1 (List.map (rK .u64) closed))))),(2,.pl (.one (.ref 3 []))),(5,.pl (.one (.ref 4 []))),(7,.pl (.one (.ref 5 []))),(16,.pl (.one (.v (.list false 4 (List.map (zC false) w.Bodies))))),(17,.pl (.one (.v (.sc (.int .i64 (w.Bodies.length:Int)))))),(18,.pl (.one (.v (.sc (.int .i64 x18))))),(60,.pl (.one (.v (.list false 1 (List.map (rK .i64) x_2.Dels))))),(61,.pl (.one (.v (.sc (.int .i64 (x_2.Dels.length:Int)))))),(62,.pl (.one (.v (.sc (.int .i64 x62)))))],[(3,.box true [.list false 1 (List.map (rL false 1 (rK .i64)) w.Parents),.list false 4 (List.map (zC false) w.Bodies)]),(4,.list true 1 (List.map (rK .i64) (born_1.set x_2.Ins.toNat (wk .i64 (x_4+1))))),(5,.box true [.sc (.string x_2.Line),.sc (.int .i64 x_2.Ins),.sc (.int .i64 x_2.Ord),.list false 1 (List.map (rK .i64) x_2.Dels)])]⟩) [1,2,5,7,16,17,18,60,61,62] [(3,3),(4,4),(5,5)] 6 rfl ?_
        rintro x62 _ rfl y2'
        change Tl _ (impl_bodiesOk_l3 w closed x_2 x62) _ _; unfold impl_bodiesOk_l3
        refine go ?_
        refine sq ?_
        refine go ?_
        refine sp ?_ ?_
        ·refine go ?_
         refine sq ?_
         refine go ?_; intro x_5 v'
         refine go ?_; intro x_6 v'
         refine go ?_
         refine rq ?_
         refine go ?_; intro x73
         refine go ?_; intro x74
         refine go ?_
         refine sp ?_ ?_
         ·exact gz
         ·refine go ?_
          exact bk [1,2,5,7,16,17,18,60,61,62] [(3,3),(4,4),(5,5)] 6 rfl
        ·refine go ?_
         exact je [1,2,5,16,17,18] [(3,3),(4,4)] 5 fun h=>⟨_,h,rfl⟩
   ·rintro e' ⟨born_2,h,rfl⟩; refine tl h ?_; unfold impl_bodiesOk_j3
    refine go ?_
    exact bk [1,2,5,16,17,18] [(3,3),(4,4)] 5 ⟨_,_,rfl,rfl⟩
  ·refine go ?_
   exact je [1,2,5] [(3,3),(4,4)] 5 fun h=>⟨_,h,rfl⟩
 ·rintro e' ⟨born,h,rfl⟩; refine tl h ?_; unfold impl_bodiesOk_j1
  refine jn (fun e'=>impl_bodiesOk_j2=some r'∧e'=⟨97,3,3,[],[]⟩) ?_ ?_
  ·refine go ?_
   refine lp (fun x80 e'=>e'=⟨97,3,5,[(2,.pl (.one (.ref 3 []))),(5,.pl (.one (.ref 4 []))),(78,.pl (.one (.v (.list false 1 (List.map (rK .u64) closed))))),(79,.pl (.one (.v (.sc (.int .i64 (closed.length:Int)))))),(80,.pl (.one (.v (.sc (.int .i64 x80)))))],[(3,.box true [.list false 1 (List.map (rL false 1 (rK .i64)) w.Parents),.list false 4 (List.map (zC false) w.Bodies)]),(4,.list true 1 (List.map (rK .i64) born))]⟩) [2,5,78,79,80] [(3,3),(4,4)] 5 rfl ?_
   rintro x80 _ rfl y1'
   change Tl _ (impl_bodiesOk_l1 w closed born x80) _ _; unfold impl_bodiesOk_l1
   refine go ?_
   refine sq ?_
   refine go ?_
   refine sp ?_ ?_
   ·refine go ?_
    refine sq ?_
    refine go ?_; intro x v'
    refine go ?_; intro x_1 v'
    refine go ?_
    refine gc 5 (fun b e'=>e'=⟨97,3,5,[(2,.pl (.one (.ref 3 []))),(5,.pl (.one (.ref 4 []))),(78,.pl (.one (.v (.list false 1 (List.map (rK .u64) closed))))),(79,.pl (.one (.v (.sc (.int .i64 (closed.length:Int)))))),(80,.pl (.one (.v (.sc (.int .i64 x80))))),(95,.pl (.one (.v (.sc (.bool b)))))],[(3,.box true [.list false 1 (List.map (rL false 1 (rK .i64)) w.Parents),.list false 4 (List.map (zC false) w.Bodies)]),(4,.list true 1 (List.map (rK .i64) born))]⟩) ?_ ?_
    ·intro p
     refine zY ?_ ?_
     ·refine go ?_
      exact ge [2,5,78,79,80,95] [(3,3),(4,4)] 5 rfl
     ·refine go ?_; intro x92
      refine go ?_
      exact ge [2,5,78,79,80,95] [(3,3),(4,4)] 5 rfl
    ·rintro b _ rfl
     refine go ?_
     refine sp ?_ ?_
     ·exact gz
     ·refine go ?_
      exact bk [2,5,78,79,80] [(3,3),(4,4)] 5 rfl
   ·refine go ?_
    exact je [] [] 3 fun h=>⟨h,rfl⟩
  ·rintro e' ⟨h,rfl⟩; refine tl h ?_; unfold impl_bodiesOk_j2
   exact gz
instance W_impl_WeaveOk:∀ w,Wlk X (impl_WeaveOk w) 77 [] [.agg [.list false 1 (List.map (rL false 1 (rK .i64)) w.Parents),.list false 4 (List.map (zC false) w.Bodies)]] (fun r'=>[.one (.sc (.bool r'))]) (fun r'=>[]):=fun w=>by
 refine ws f77 19 [.tmp 2] (h2 t3 (h2 t33 (h2 t34 (h2 t36 (h2 qX (h2 zS (h2 R_i64 R_u64))))))) ?_
 intro r'; unfold impl_WeaveOk
 refine go ?_
 refine bx ?_; intro b gh0_1_0
 refine bx ?_; intro b_1 gh1_1_0
 refine jr (fun e'=>e'=⟨19,2,2,[(2,.pl (.one (.v (.sc (.bool b_1)))))],[]⟩) ?_ ?_
 ·refine rc [0,1,2,3,4,5,6,7,8,9,10,11,12,13,14,15,16] ?_
  refine go ?_
  refine cs (fun c0=>?_) (fun c0=>?_)
  ·replace gh0_1_0:=(ifT c0).symm.trans gh0_1_0
   obtain ⟨x10,hy_x10,gh0_1_0⟩:=zbi gh0_1_0
   obtain rfl:=zso gh0_1_0
   refine go ?_
   refine cc hy_x10 ?_
   refine go ?_
   refine cs (fun c1=>?_) (fun c1=>?_)
   ·replace gh1_1_0:=(ifT c1).symm.trans gh1_1_0
    obtain ⟨x16,hy_x16,gh1_1_0⟩:=zbi gh1_1_0
    obtain ⟨x17,hy_x17,gh1_1_0⟩:=zbi gh1_1_0
    obtain rfl:=zso gh1_1_0
    refine go ?_
    refine cc hy_x16 ?_
    refine cc hy_x17 ?_
    refine go ?_
    exact gq [2] [] 2 rfl
   ·replace gh1_1_0:=(ifF c1).symm.trans gh1_1_0
    obtain rfl:=zso gh1_1_0
    refine go ?_
    exact gq [2] [] 2 rfl
  ·replace gh0_1_0:=(ifF c0).symm.trans gh0_1_0
   obtain rfl:=zso gh0_1_0
   refine go ?_
   replace gh1_1_0:=(ifF rfl).symm.trans gh1_1_0
   obtain rfl:=zso gh1_1_0
   refine go ?_
   exact gq [2] [] 2 rfl
 ·rintro e' rfl; refine cn ?_
  exact gz
instance W_impl_Store_graphs:∀ s,Wlk X (impl_Store_graphs s) 59 [] [.one (.box false [.list false 3 (List.map (zA false) s.Commits),.list false 2 (List.map (zB false) s.Files)])] (fun r'=>[.one (.list true 1 (List.map (rL false 1 (rL false 1 (rK .i64))) r'))]) (fun r'=>[]):=fun s=>by
 refine ws f59 22 [.tmp 2] (h2 t3 (h2 t25 (h2 t27 (h2 t33 (h2 t36 (h2 t106 (h2 R_LLi64 (h2 qX (h2 zS (h2 qK (h2 zT (h2 jJ R_i64)))))))))))) ?_
 intro r'; unfold impl_Store_graphs
 refine go ?_
 refine l1 ?_
 refine go ?_
 refine l1 ?_
 refine go ?_
 refine jn (fun e'=>∃ out_,impl_Store_graphs_j1 out_=some r'∧e'=⟨22,1,2,[(3,.pl (.one (.ref 1 [])))],[(1,.list true 1 (List.map (rL false 1 (rL false 1 (rK .i64))) out_))]⟩) ?_ ?_
 ·refine go ?_
  refine lp (fun s' e'=>∃ x11 out__1,s'=(x11,out__1)∧e'=⟨22,1,2,[(3,.pl (.one (.ref 1 []))),(9,.pl (.one (.v (.list false 2 (List.map (zB false) s.Files))))),(10,.pl (.one (.v (.sc (.int .i64 (s.Files.length:Int)))))),(11,.pl (.one (.v (.sc (.int .i64 x11)))))],[(1,.list true 1 (List.map (rL false 1 (rL false 1 (rK .i64))) out__1))]⟩) [3,9,10,11] [(2,1)] 2 ⟨_,_,rfl,rfl⟩ ?_
  rintro s' _ ⟨x11,out__1,rfl,rfl⟩ y1'
  change Tl _ (impl_Store_graphs_l1 s x11 out__1) _ _; unfold impl_Store_graphs_l1
  refine go ?_
  refine sq ?_
  refine go ?_
  refine sp ?_ ?_
  ·refine go ?_
   refine sq ?_
   refine go ?_; intro x v'
   refine go ?_
   refine l1 ?_
   refine go ?_; intro l v'
   refine go ?_
   exact bk [3,9,10,11] [(1,1)] 2 ⟨_,_,rfl,rfl⟩
  ·refine go ?_
   exact je [3] [(1,1)] 2 fun h=>⟨_,h,rfl⟩
 ·rintro e' ⟨out_,h,rfl⟩; refine tl h ?_; unfold impl_Store_graphs_j1
  exact gz
instance W_impl_sizesOf:∀ files,Wlk X (impl_sizesOf files) 58 [] [.one (.list false 1 (List.map (rL false 1 (rL false 1 (rK .i64))) files))] (fun r'=>[.one (.list true 1 (List.map (rK .i64) r'))]) (fun r'=>[]):=fun files=>by
 refine ws f58 19 [.tmp 2] (h2 t3 (h2 t33 (h2 t40 (h2 t106 (h2 R_LLi64 (h2 qX R_i64)))))) ?_
 intro r'; unfold impl_sizesOf
 refine go ?_
 refine l1 ?_
 refine go ?_
 refine l1 ?_
 refine go ?_
 refine jn (fun e'=>∃ out_,impl_sizesOf_j1 out_=some r'∧e'=⟨19,1,2,[(3,.pl (.one (.ref 1 [])))],[(1,.list true 1 (List.map (rK .i64) out_))]⟩) ?_ ?_
 ·refine go ?_
  refine lp (fun s' e'=>∃ x8 out__1,s'=(x8,out__1)∧e'=⟨19,1,2,[(3,.pl (.one (.ref 1 []))),(6,.pl (.one (.v (.list false 1 (List.map (rL false 1 (rL false 1 (rK .i64))) files))))),(7,.pl (.one (.v (.sc (.int .i64 (files.length:Int)))))),(8,.pl (.one (.v (.sc (.int .i64 x8)))))],[(1,.list true 1 (List.map (rK .i64) out__1))]⟩) [3,6,7,8] [(2,1)] 2 ⟨_,_,rfl,rfl⟩ ?_
  rintro s' _ ⟨x8,out__1,rfl,rfl⟩ y1'
  change Tl _ (impl_sizesOf_l1 files x8 out__1) _ _; unfold impl_sizesOf_l1
  refine go ?_
  refine sq ?_
  refine go ?_
  refine sp ?_ ?_
  ·refine go ?_
   refine sq ?_
   refine go ?_; intro x v'
   refine go ?_; intro l v'
   refine go ?_
   exact bk [3,6,7,8] [(1,1)] 2 ⟨_,_,rfl,rfl⟩
  ·refine go ?_
   exact je [3] [(1,1)] 2 fun h=>⟨_,h,rfl⟩
 ·rintro e' ⟨out_,h,rfl⟩; refine tl h ?_; unfold impl_sizesOf_j1
  exact gz
instance W_impl_graphOf:∀ list_,Wlk X (impl_graphOf list_) 153 [] [.one (.list false 3 (List.map (zA false) list_))] (fun r'=>[.one (.list true 1 (List.map (rL false 1 (rK .i64)) r'))]) (fun r'=>[]):=fun list_=>by
 refine ws f153 19 [.tmp 2] (h2 t3 (h2 t24 (h2 t33 (h2 t40 (h2 t43 (h2 qX (h2 qK (h2 zT R_i64)))))))) ?_
 intro r'; unfold impl_graphOf
 refine go ?_
 refine l1 ?_
 refine go ?_
 refine l1 ?_
 refine go ?_
 refine jn (fun e'=>∃ out_,impl_graphOf_j1 out_=some r'∧e'=⟨19,1,2,[(3,.pl (.one (.ref 1 [])))],[(1,.list true 1 (List.map (rL false 1 (rK .i64)) out_))]⟩) ?_ ?_
 ·refine go ?_
  refine lp (fun s' e'=>∃ x8 out__1,s'=(x8,out__1)∧e'=⟨19,1,2,[(3,.pl (.one (.ref 1 []))),(6,.pl (.one (.v (.list false 3 (List.map (zA false) list_))))),(7,.pl (.one (.v (.sc (.int .i64 (list_.length:Int)))))),(8,.pl (.one (.v (.sc (.int .i64 x8)))))],[(1,.list true 1 (List.map (rL false 1 (rK .i64)) out__1))]⟩) [3,6,7,8] [(2,1)] 2 ⟨_,_,rfl,rfl⟩ ?_
  rintro s' _ ⟨x8,out__1,rfl,rfl⟩ y1'
  change Tl _ (impl_graphOf_l1 list_ x8 out__1) _ _; unfold impl_graphOf_l1
  refine go ?_
  refine sq ?_
  refine go ?_
  refine sp ?_ ?_
  ·refine go ?_
   refine sq ?_
   refine go ?_; intro x v'
   refine go ?_
   refine l1 ?_
   refine go ?_; intro l v'
   refine go ?_
   exact bk [3,6,7,8] [(1,1)] 2 ⟨_,_,rfl,rfl⟩
  ·refine go ?_
   exact je [3] [(1,1)] 2 fun h=>⟨_,h,rfl⟩
 ·rintro e' ⟨out_,h,rfl⟩; refine tl h ?_; unfold impl_graphOf_j1
  exact gz
instance W_impl_NoteOk:∀ note,Wlk X (impl_NoteOk note) 217 [] [.one (.sc (.string note))] (fun r'=>[.one (.sc (.bool r'))]) (fun r'=>[]):=fun note=>by
 refine ws f217 23 [.tmp 2] (h2 t3 (h2 t5 t9)) ?_
 intro r'; unfold impl_NoteOk
 refine go ?_
 refine jn (fun e'=>impl_NoteOk_j1 note=some r'∧e'=⟨23,1,1,[(0,.pl (.one (.v (.sc (.string note)))))],[]⟩) ?_ ?_
 ·refine go ?_
  refine lp (fun i e'=>e'=⟨23,1,1,[(0,.pl (.one (.v (.sc (.string note))))),(3,.pl (.one (.v (.sc (.int .i64 i)))))],[]⟩) [0,3] [] 1 rfl ?_
  rintro i _ rfl y1'
  change Tl _ (impl_NoteOk_l1 note i) _ _; unfold impl_NoteOk_l1
  refine sq ?_
  refine go ?_
  refine sp ?_ ?_
  ·refine go ?_
   refine sq ?_
   refine go ?_; intro x12 v'
   refine go ?_
   refine gc 5 (fun b e'=>e'=⟨23,1,1,[(0,.pl (.one (.v (.sc (.string note))))),(3,.pl (.one (.v (.sc (.int .i64 i))))),(19,.pl (.one (.v (.sc (.bool b)))))],[]⟩) ?_ ?_
   ·intro p
    refine zY ?_ ?_
    ·refine go ?_
     exact ge [0,3,19] [] 1 rfl
    ·refine go ?_
     exact ge [0,3,19] [] 1 rfl
   ·rintro b _ rfl
    refine go ?_
    refine sp ?_ ?_
    ·exact gz
    ·refine go ?_
     exact bk [0,3] [] 1 rfl
  ·refine go ?_
   exact je [0] [] 1 fun h=>⟨h,rfl⟩
 ·rintro e' ⟨h,rfl⟩; refine tl h ?_; unfold impl_NoteOk_j1
  exact gz
instance W_internal_stringslite_HasPrefix:∀ s prefix_,Wlk X (xD s prefix_) 281 [] [.one (.sc (.string s)),.one (.sc (.string prefix_))] (fun r'=>[.one (.sc (.bool r'))]) (fun r'=>[]):=fun s prefix_=>by
 refine ws f281 18 [.tmp 4] (h2 t3 t9) ?_
 intro r'; unfold xD
 refine go ?_
 refine gc 7 (fun b e'=>e'=⟨18,2,2,[(17,.pl (.one (.v (.sc (.bool b)))))],[]⟩) ?_ ?_
 ·intro p
  refine qT ?_ ?_
  ·refine go ?_; intro x14 v'
   refine go ?_
   refine l1 ?_
   refine go ?_
   exact ge [17] [] 2 rfl
  ·refine go ?_
   exact ge [17] [] 2 rfl
 ·rintro b _ rfl
  exact gz
instance W_strings_HasPrefix:∀ s prefix_,Wlk X (strings_HasPrefix s prefix_) 272 [] [.one (.sc (.string s)),.one (.sc (.string prefix_))] (fun r'=>[.one (.sc (.bool r'))]) (fun r'=>[]):=fun s prefix_=>by
 refine ws f272 8 [.tmp 4] trivial ?_
 intro r'; unfold strings_HasPrefix
 refine go ?_; intro x7
 exact gz
instance W_internal_stringslite_HasSuffix:∀ s suffix,Wlk X (xC s suffix) 282 [] [.one (.sc (.string s)),.one (.sc (.string suffix))] (fun r'=>[.one (.sc (.bool r'))]) (fun r'=>[]):=fun s suffix=>by
 refine ws f282 21 [.tmp 4] (h2 t3 t9) ?_
 intro r'; unfold xC
 refine go ?_
 refine gc 10 (fun b e'=>e'=⟨21,2,2,[(20,.pl (.one (.v (.sc (.bool b)))))],[]⟩) ?_ ?_
 ·intro p
  refine qT ?_ ?_
  ·refine go ?_; intro x17 v'
   refine go ?_
   refine l1 ?_
   refine go ?_
   exact ge [20] [] 2 rfl
  ·refine go ?_
   exact ge [20] [] 2 rfl
 ·rintro b _ rfl
  exact gz
instance W_strings_HasSuffix:∀ s suffix,Wlk X (strings_HasSuffix s suffix) 273 [] [.one (.sc (.string s)),.one (.sc (.string suffix))] (fun r'=>[.one (.sc (.bool r'))]) (fun r'=>[]):=fun s suffix=>by
 refine ws f273 8 [.tmp 4] trivial ?_
 intro r'; unfold strings_HasSuffix
 refine go ?_; intro x7
 exact gz
instance W_impl_PathOk:∀ path,Wlk X (impl_PathOk path) 250 [] [.one (.sc (.string path))] (fun r'=>[.one (.sc (.bool r'))]) (fun r'=>[]):=fun path=>by
 refine ws f250 58 [.tmp 2] (h2 t3 (h2 t5 t9)) ?_
 intro r'; unfold impl_PathOk
 refine go ?_
 refine jn (fun e'=>impl_PathOk_j1 path=some r'∧e'=⟨58,1,1,[(0,.pl (.one (.v (.sc (.string path)))))],[]⟩) ?_ ?_
 ·refine go ?_
  refine lp (fun i e'=>e'=⟨58,1,1,[(0,.pl (.one (.v (.sc (.string path))))),(3,.pl (.one (.v (.sc (.int .i64 i)))))],[]⟩) [0,3] [] 1 rfl ?_
  rintro i _ rfl y1'
  change Tl _ (impl_PathOk_l1 path i) _ _; unfold impl_PathOk_l1
  refine sq ?_
  refine go ?_
  refine sp ?_ ?_
  ·refine go ?_
   refine sq ?_
   refine go ?_; intro x13 v'
   refine go ?_
   refine gc 3 (fun b_2 e'=>e'=⟨58,1,1,[(0,.pl (.one (.v (.sc (.string path))))),(3,.pl (.one (.v (.sc (.int .i64 i))))),(4,.pl (.one (.v (.sc (.int .u8 x13))))),(19,.pl (.one (.v (.sc (.bool b_2)))))],[]⟩) ?_ ?_
   ·intro p
    refine qT ?_ ?_
    ·refine go ?_
     exact ge [0,3,4,19] [] 1 rfl
    ·refine go ?_
     exact ge [0,3,4,19] [] 1 rfl
   ·rintro b_2 _ rfl
    refine go ?_
    refine gc 7 (fun b_3 e'=>e'=⟨58,1,1,[(0,.pl (.one (.v (.sc (.string path))))),(3,.pl (.one (.v (.sc (.int .i64 i))))),(4,.pl (.one (.v (.sc (.int .u8 x13))))),(27,.pl (.one (.v (.sc (.bool b_3)))))],[]⟩) ?_ ?_
    ·intro p
     refine zY ?_ ?_
     ·refine go ?_
      exact ge [0,3,4,27] [] 1 rfl
     ·refine go ?_
      refine gc 3 (fun b_4 e'=>e'=⟨58,1,1,[(0,.pl (.one (.v (.sc (.string path))))),(3,.pl (.one (.v (.sc (.int .i64 i))))),(4,.pl (.one (.v (.sc (.int .u8 x13))))),(20,.pl (.one (.v (.sc (.bool false))))),(21,.pl (.one (.v (.sc (.int .u8 x13))))),(22,.pl (.one (.v (.sc (.bool (decide (x13≥48))))))),(26,.pl (.one (.v (.sc (.bool b_4)))))],[]⟩) ?_ ?_
      ·intro p
       refine qT ?_ ?_
       ·refine go ?_
        exact ge [0,3,4,20,21,22,26] [] 1 rfl
       ·refine go ?_
        exact ge [0,3,4,20,21,22,26] [] 1 rfl
      ·rintro b_4 _ rfl
       refine go ?_
       exact ge [0,3,4,27] [] 1 rfl
    ·rintro b_3 _ rfl
     refine go ?_
     refine gc 3 (fun b_5 e'=>e'=⟨58,1,1,[(0,.pl (.one (.v (.sc (.string path))))),(3,.pl (.one (.v (.sc (.int .i64 i))))),(4,.pl (.one (.v (.sc (.int .u8 x13))))),(31,.pl (.one (.v (.sc (.bool b_5)))))],[]⟩) ?_ ?_
     ·intro p
      refine zY ?_ ?_
      ·refine go ?_
       exact ge [0,3,4,31] [] 1 rfl
      ·refine go ?_
       exact ge [0,3,4,31] [] 1 rfl
     ·rintro b_5 _ rfl
      refine go ?_
      refine gc 3 (fun b_6 e'=>e'=⟨58,1,1,[(0,.pl (.one (.v (.sc (.string path))))),(3,.pl (.one (.v (.sc (.int .i64 i))))),(4,.pl (.one (.v (.sc (.int .u8 x13))))),(35,.pl (.one (.v (.sc (.bool b_6)))))],[]⟩) ?_ ?_
      ·intro p
       refine zY ?_ ?_
       ·refine go ?_
        exact ge [0,3,4,35] [] 1 rfl
       ·refine go ?_
        exact ge [0,3,4,35] [] 1 rfl
      ·rintro b_6 _ rfl
       refine go ?_
       refine gc 3 (fun b_7 e'=>e'=⟨58,1,1,[(0,.pl (.one (.v (.sc (.string path))))),(3,.pl (.one (.v (.sc (.int .i64 i))))),(39,.pl (.one (.v (.sc (.bool b_7)))))],[]⟩) ?_ ?_
       ·intro p
        refine zY ?_ ?_
        ·refine go ?_
         exact ge [0,3,39] [] 1 rfl
        ·refine go ?_
         exact ge [0,3,39] [] 1 rfl
       ·rintro b_7 _ rfl
        refine go ?_
        refine sp ?_ ?_
        ·exact gz
        ·refine go ?_
         exact bk [0,3] [] 1 rfl
  ·refine go ?_
   exact je [0] [] 1 fun h=>⟨h,rfl⟩
 ·rintro e' ⟨h,rfl⟩; refine tl h ?_; unfold impl_PathOk_j1
  refine sq ?_
  refine go ?_; intro x43
  refine go ?_
  refine sp ?_ ?_
  ·exact gz
  ·refine go ?_; intro x46
   refine go ?_
   refine gc 4 (fun b e'=>e'=⟨58,1,1,[(0,.pl (.one (.v (.sc (.string path))))),(52,.pl (.one (.v (.sc (.bool b)))))],[]⟩) ?_ ?_
   ·intro p
    refine qT ?_ ?_
    ·refine go ?_; intro x50
     refine go ?_
     exact ge [0,52] [] 1 rfl
    ·refine go ?_
     exact ge [0,52] [] 1 rfl
   ·rintro b _ rfl
    refine go ?_
    refine gc 4 (fun b_1 e'=>e'=⟨58,1,1,[(57,.pl (.one (.v (.sc (.bool b_1)))))],[]⟩) ?_ ?_
    ·intro p
     refine qT ?_ ?_
     ·refine go ?_; intro x55
      refine go ?_
      exact ge [57] [] 1 rfl
     ·refine go ?_
      exact ge [57] [] 1 rfl
    ·rintro b_1 _ rfl
     exact gz
instance W_impl_idAt_c1:∀ n c,Wlk X (impl_idAt_c1 n c) 222 [] [.agg [.sc (.string n.Path),.sc (.int .i64 n.Id),.sc (.int .i64 n.Version)],.one (.box false [.sc (.int .i64 c)])] (fun r'=>[.one (.sc (.bool r'))]) (fun r'=>[]):=fun n c=>by
 refine ws f222 8 [.tmp 3] (h2 t3 t45) ?_
 intro r'; unfold impl_idAt_c1
 exact gz
theorem W_slices_IndexFunc_impl_Name_impl_Name__1 (s:List T_impl_Name) (f:T_impl_Name→Option Bool) (f_f:Nat) (f_c0:V) (f_h:∀ (z0':T_impl_Name) r',f z0'=some r'→Fn X f_f [.agg [.sc (.string z0'.Path),.sc (.int .i64 z0'.Id),.sc (.int .i64 z0'.Version)],.one (f_c0)] [.one (.sc (.bool r'))] []) (r':Int) (h0':qN s f=some r'):Fn X 220 [.one (.list false 3 (List.map (zD true) s)),.one (.fn f_f [f_c0])] [.one (.sc (.int .i64 r'))] []:=by
 refine (?_:Wlk X (qN s f) 220 [] [.one (.list false 3 (List.map (zD true) s)),.one (.fn f_f [f_c0])] (fun r'=>[.one (.sc (.int .i64 r'))]) (fun r'=>[])).w r' h0'
 clear h0'
 refine ws f220 19 [.tmp 4] (h2 t3 (h2 t41 (h2 t45 zT))) ?_
 intro r'; unfold qN
 refine go ?_
 refine jn (fun e'=>jX=some r'∧e'=⟨19,2,2,[],[]⟩) ?_ ?_
 ·refine go ?_
  refine lp (fun x8 e'=>e'=⟨19,2,2,[(0,.pl (.one (.v (.list false 3 (List.map (zD true) s))))),(1,.pl (.one (.v (.fn f_f [f_c0])))),(7,.pl (.one (.v (.sc (.int .i64 (s.length:Int)))))),(8,.pl (.one (.v (.sc (.int .i64 x8)))))],[]⟩) [0,1,7,8] [] 2 rfl ?_
  rintro x8 _ rfl y1'
  change Tl _ (qH s f x8) _ _; unfold qH
  refine go ?_
  refine sq ?_
  refine go ?_
  refine sp ?_ ?_
  ·refine go ?_
   refine sq ?_
   refine go ?_; intro x v'
   refine go ?_
   refine cNW [] [] (fun x h=>f_h _ _ h) ?_; intro x16
   refine go ?_
   refine sp ?_ ?_
   ·exact gz
   ·refine go ?_
    exact bk [0,1,7,8] [] 2 rfl
  ·refine go ?_
   exact je [] [] 2 fun h=>⟨h,rfl⟩
 ·rintro e' ⟨h,rfl⟩; refine tl h ?_; unfold jX
  exact gz
instance W_impl_idAt:∀ list_ id,Wlk X (impl_idAt list_ id) 156 [] [.one (.list false 3 (List.map (zD true) list_)),.one (.sc (.int .i64 id))] (fun r'=>[.one (.sc (.int .i64 r'))]) (fun r'=>[]):=fun list_ id=>by
 refine ws f156 8 [.tmp 4] zT ?_
 intro r'; unfold impl_idAt
 refine go ?_
 refine oF 2 ?_
 refine lf ?_ (fun a g=>opsV_mkF a g)
 refine go ?_
 refine cNW [] [] (fun x h=>W_slices_IndexFunc_impl_Name_impl_Name__1 _ (fun z0'=>impl_idAt_c1 z0' id) _ _ (fun z0' r' h'=>(W_impl_idAt_c1 z0' _).w r' h') _ h) ?_; intro x7
 exact gz
instance W_impl_NamesOk:∀ list_,Wlk X (impl_NamesOk list_) 218 [] [.one (.list false 3 (List.map (zD true) list_))] (fun r'=>[.one (.sc (.bool r'))]) (fun r'=>[]):=fun list_=>by
 refine ws f218 53 [.tmp 2] (h2 t3 (h2 t9 (h2 t41 (h2 t45 zT)))) ?_
 intro r'; unfold impl_NamesOk
 refine go ?_
 refine sq ?_
 refine go ?_
 refine sp ?_ ?_
 ·exact gz
 ·refine go ?_
  refine jn (fun e'=>impl_NamesOk_j1=some r'∧e'=⟨53,1,1,[],[]⟩) ?_ ?_
  ·refine go ?_
   refine lp (fun x10 e'=>e'=⟨53,1,1,[(0,.pl (.one (.v (.list false 3 (List.map (zD true) list_))))),(8,.pl (.one (.v (.list false 3 (List.map (zD true) list_))))),(9,.pl (.one (.v (.sc (.int .i64 (list_.length:Int)))))),(10,.pl (.one (.v (.sc (.int .i64 x10)))))],[]⟩) [0,8,9,10] [] 1 rfl ?_
   rintro x10 _ rfl y1'
   change Tl _ (impl_NamesOk_l1 list_ x10) _ _; unfold impl_NamesOk_l1
   refine go ?_
   refine sq ?_
   refine go ?_
   refine sp ?_ ?_
   ·refine go ?_
    refine sq ?_
    refine go ?_; intro x v'
    refine go ?_
    refine l1 ?_
    refine go ?_
    refine sq ?_
    refine go ?_; intro x17
    refine go ?_
    refine gc 5 (fun b e'=>e'=⟨53,1,2,[(0,.pl (.one (.v (.list false 3 (List.map (zD true) list_))))),(3,.pl (.one (.v (.sc (.int .i64 x10))))),(4,.pl (.one (.ref 1 []))),(8,.pl (.one (.v (.list false 3 (List.map (zD true) list_))))),(9,.pl (.one (.v (.sc (.int .i64 (list_.length:Int)))))),(10,.pl (.one (.v (.sc (.int .i64 x10))))),(24,.pl (.one (.v (.sc (.bool b)))))],[(1,.box true [.sc (.string x.Path),.sc (.int .i64 x.Id),.sc (.int .i64 x.Version)])]⟩) ?_ ?_
    ·intro p
     refine zY ?_ ?_
     ·refine go ?_
      exact ge [0,3,4,8,9,10,24] [(1,1)] 2 rfl
     ·refine go ?_; intro x22
      refine go ?_
      exact ge [0,3,4,8,9,10,24] [(1,1)] 2 rfl
    ·rintro b _ rfl
     refine go ?_
     refine gc 5 (fun b_1 e'=>e'=⟨53,1,2,[(0,.pl (.one (.v (.list false 3 (List.map (zD true) list_))))),(3,.pl (.one (.v (.sc (.int .i64 x10))))),(4,.pl (.one (.ref 1 []))),(8,.pl (.one (.v (.list false 3 (List.map (zD true) list_))))),(9,.pl (.one (.v (.sc (.int .i64 (list_.length:Int)))))),(10,.pl (.one (.v (.sc (.int .i64 x10))))),(30,.pl (.one (.v (.sc (.bool b_1)))))],[(1,.box true [.sc (.string x.Path),.sc (.int .i64 x.Id),.sc (.int .i64 x.Version)])]⟩) ?_ ?_
     ·intro p
      refine zY ?_ ?_
      ·refine go ?_
       exact ge [0,3,4,8,9,10,30] [(1,1)] 2 rfl
      ·refine go ?_; intro x28
       refine go ?_
       exact ge [0,3,4,8,9,10,30] [(1,1)] 2 rfl
     ·rintro b_1 _ rfl
      refine go ?_
      refine sp ?_ ?_
      ·exact gz
      ·refine go ?_
       refine rq ?_
       refine go ?_
       refine qc 10 (fun b_2 e'=>e'=⟨53,1,2,[(0,.pl (.one (.v (.list false 3 (List.map (zD true) list_))))),(3,.pl (.one (.v (.sc (.int .i64 x10))))),(4,.pl (.one (.ref 1 []))),(8,.pl (.one (.v (.list false 3 (List.map (zD true) list_))))),(9,.pl (.one (.v (.sc (.int .i64 (list_.length:Int)))))),(10,.pl (.one (.v (.sc (.int .i64 x10))))),(43,.pl (.one (.v (.sc (.bool b_2)))))],[(1,.box true [.sc (.string x.Path),.sc (.int .i64 x.Id),.sc (.int .i64 x.Version)])]⟩) ?_ ?_
       ·intro p
        refine quV_spL ?_ ?_
        ·refine go ?_; intro x_1 v'
         refine go ?_
         exact ge [0,3,4,8,9,10,43] [(1,1)] 2 rfl
        ·refine go ?_
         exact ge [0,3,4,8,9,10,43] [(1,1)] 2 rfl
       ·rintro b_2 _ rfl
        refine go ?_
        refine qc 7 (fun b_3 e'=>e'=⟨53,1,1,[(0,.pl (.one (.v (.list false 3 (List.map (zD true) list_))))),(8,.pl (.one (.v (.list false 3 (List.map (zD true) list_))))),(9,.pl (.one (.v (.sc (.int .i64 (list_.length:Int)))))),(10,.pl (.one (.v (.sc (.int .i64 x10))))),(51,.pl (.one (.v (.sc (.bool b_3)))))],[]⟩) ?_ ?_
        ·intro p
         refine quV_spR ?_ ?_
         ·refine go ?_
          exact ge [0,8,9,10,51] [] 1 rfl
         ·refine go ?_; intro x48
          refine go ?_
          exact ge [0,8,9,10,51] [] 1 rfl
        ·rintro b_3 _ rfl
         refine go ?_
         refine sp ?_ ?_
         ·exact gz
         ·refine go ?_
          exact bk [0,8,9,10] [] 1 rfl
   ·refine go ?_
    exact je [] [] 1 fun h=>⟨h,rfl⟩
  ·rintro e' ⟨h,rfl⟩; refine tl h ?_; unfold impl_NamesOk_j1
   exact gz
instance W_impl_CommitsOk:∀ list_ versions,Wlk X (impl_CommitsOk list_ versions) 141 [] [.one (.list false 3 (List.map (zA false) list_)),.one (.list false 1 (List.map (rK .i64) versions))] (fun r'=>[.one (.sc (.bool r'))]) (fun r'=>[]):=fun list_ versions=>by
 refine ws f141 75 [.tmp 4] (h2 t3 (h2 t9 (h2 t24 (h2 t40 (h2 t41 (h2 t43 (h2 t45 (h2 qX (h2 qK (h2 zT R_i64)))))))))) ?_
 intro r'; unfold impl_CommitsOk
 refine go ?_
 refine sq ?_
 refine go ?_
 refine gc 5 (fun b e'=>e'=⟨75,2,2,[(0,.pl (.one (.v (.list false 3 (List.map (zA false) list_))))),(1,.pl (.one (.v (.list false 1 (List.map (rK .i64) versions))))),(19,.pl (.one (.v (.sc (.bool b)))))],[]⟩) ?_ ?_
 ·intro p
  refine zY ?_ ?_
  ·refine go ?_
   exact ge [0,1,19] [] 2 rfl
  ·refine go ?_; intro x16
   refine go ?_; intro x17
   refine go ?_
   exact ge [0,1,19] [] 2 rfl
 ·rintro b _ rfl
  refine go ?_
  refine gc 4 (fun b_1 e'=>e'=⟨75,2,2,[(0,.pl (.one (.v (.list false 3 (List.map (zA false) list_))))),(1,.pl (.one (.v (.list false 1 (List.map (rK .i64) versions))))),(24,.pl (.one (.v (.sc (.bool b_1)))))],[]⟩) ?_ ?_
  ·intro p
   refine zY ?_ ?_
   ·refine go ?_
    exact ge [0,1,24] [] 2 rfl
   ·refine go ?_
    exact ge [0,1,24] [] 2 rfl
  ·rintro b_1 _ rfl
   refine go ?_
   refine sp ?_ ?_
   ·exact gz
   ·refine go ?_
    refine jn (fun e'=>impl_CommitsOk_j1 list_ versions=some r'∧e'=⟨75,2,2,[(0,.pl (.one (.v (.list false 3 (List.map (zA false) list_))))),(1,.pl (.one (.v (.list false 1 (List.map (rK .i64) versions)))))],[]⟩) ?_ ?_
    ·refine go ?_
     refine lp (fun x27 e'=>e'=⟨75,2,2,[(0,.pl (.one (.v (.list false 3 (List.map (zA false) list_))))),(1,.pl (.one (.v (.list false 1 (List.map (rK .i64) versions))))),(25,.pl (.one (.v (.list false 1 (List.map (rK .i64) versions))))),(26,.pl (.one (.v (.sc (.int .i64 (versions.length:Int)))))),(27,.pl (.one (.v (.sc (.int .i64 x27)))))],[]⟩) [0,1,25,26,27] [] 2 rfl ?_
     rintro x27 _ rfl y1'
     change Tl _ (impl_CommitsOk_l3 versions x27) _ _; unfold impl_CommitsOk_l3
     refine go ?_
     refine sq ?_
     refine go ?_
     refine sp ?_ ?_
     ·refine go ?_
      refine sq ?_
      refine go ?_; intro x_3 v'
      refine go ?_; intro x32
      refine go ?_
      refine sp ?_ ?_
      ·exact gz
      ·refine go ?_
       exact bk [0,1,25,26,27] [] 2 rfl
     ·refine go ?_
      exact je [0,1] [] 2 fun h=>⟨h,rfl⟩
    ·rintro e' ⟨h,rfl⟩; refine tl h ?_; unfold impl_CommitsOk_j1
     refine jn (fun e'=>impl_CommitsOk_j2=some r'∧e'=⟨75,2,2,[],[]⟩) ?_ ?_
     ·refine go ?_
      refine lp (fun x37 e'=>e'=⟨75,2,2,[(1,.pl (.one (.v (.list false 1 (List.map (rK .i64) versions))))),(35,.pl (.one (.v (.list false 3 (List.map (zA false) list_))))),(36,.pl (.one (.v (.sc (.int .i64 (list_.length:Int)))))),(37,.pl (.one (.v (.sc (.int .i64 x37)))))],[]⟩) [1,35,36,37] [] 2 rfl ?_
      rintro x37 _ rfl y1'
      change Tl _ (impl_CommitsOk_l1 list_ versions x37) _ _; unfold impl_CommitsOk_l1
      refine go ?_
      refine sq ?_
      refine go ?_
      refine sp ?_ ?_
      ·refine go ?_
       refine jn (fun e'=>impl_CommitsOk_j3 x37=some y1'∧e'=⟨75,2,2,[(1,.pl (.one (.v (.list false 1 (List.map (rK .i64) versions))))),(35,.pl (.one (.v (.list false 3 (List.map (zA false) list_))))),(36,.pl (.one (.v (.sc (.int .i64 (list_.length:Int)))))),(37,.pl (.one (.v (.sc (.int .i64 x37)))))],[]⟩) ?_ ?_
       ·refine go ?_; intro x v'
        refine go ?_
        refine l1 ?_
        refine go ?_
        refine sq ?_
        refine go ?_; intro x43
        refine go ?_
        refine gc 5 (fun b_2 e'=>e'=⟨75,2,3,[(1,.pl (.one (.v (.list false 1 (List.map (rK .i64) versions))))),(8,.pl (.one (.ref 2 []))),(35,.pl (.one (.v (.list false 3 (List.map (zA false) list_))))),(36,.pl (.one (.v (.sc (.int .i64 (list_.length:Int)))))),(37,.pl (.one (.v (.sc (.int .i64 x37))))),(50,.pl (.one (.v (.sc (.bool b_2)))))],[(2,.box true [.list false 1 (List.map (rK .i64) x.Parents),.sc (.string x.Note),.list false 3 (List.map (zD true) x.Names)])]⟩) ?_ ?_
        ·intro p
         refine zY ?_ ?_
         ·refine go ?_
          exact ge [1,8,35,36,37,50] [(2,2)] 3 rfl
         ·refine go ?_; intro x48
          refine go ?_
          exact ge [1,8,35,36,37,50] [(2,2)] 3 rfl
        ·rintro b_2 _ rfl
         refine go ?_
         refine sp ?_ ?_
         ·exact gz
         ·refine go ?_
          refine lp (fun x54 e'=>e'=⟨75,2,2,[(1,.pl (.one (.v (.list false 1 (List.map (rK .i64) versions))))),(35,.pl (.one (.v (.list false 3 (List.map (zA false) list_))))),(36,.pl (.one (.v (.sc (.int .i64 (list_.length:Int)))))),(37,.pl (.one (.v (.sc (.int .i64 x37))))),(52,.pl (.one (.v (.list false 3 (List.map (zD true) x.Names))))),(53,.pl (.one (.v (.sc (.int .i64 (x.Names.length:Int)))))),(54,.pl (.one (.v (.sc (.int .i64 x54)))))],[]⟩) [1,35,36,37,52,53,54] [] 2 rfl ?_
          rintro x54 _ rfl y2'
          change Tl _ (impl_CommitsOk_l2 versions x x54) _ _; unfold impl_CommitsOk_l2
          refine go ?_
          refine sq ?_
          refine go ?_
          refine sp ?_ ?_
          ·refine go ?_
           refine sq ?_
           refine go ?_; intro x_1 v'
           refine go ?_
           refine l1 ?_
           refine go ?_
           refine rq ?_
           refine go ?_
           refine qc 9 (fun b_3 e'=>e'=⟨75,2,2,[(1,.pl (.one (.v (.list false 1 (List.map (rK .i64) versions))))),(35,.pl (.one (.v (.list false 3 (List.map (zA false) list_))))),(36,.pl (.one (.v (.sc (.int .i64 (list_.length:Int)))))),(37,.pl (.one (.v (.sc (.int .i64 x37))))),(52,.pl (.one (.v (.list false 3 (List.map (zD true) x.Names))))),(53,.pl (.one (.v (.sc (.int .i64 (x.Names.length:Int)))))),(54,.pl (.one (.v (.sc (.int .i64 x54))))),(72,.pl (.one (.v (.sc (.bool b_3)))))],[]⟩) ?_ ?_
           ·intro p
            refine quV_spR ?_ ?_
            ·refine go ?_
             exact ge [1,35,36,37,52,53,54,72] [] 2 rfl
            ·refine go ?_; intro x_2 v'
             refine go ?_
             exact ge [1,35,36,37,52,53,54,72] [] 2 rfl
           ·rintro b_3 _ rfl
            refine go ?_
            refine sp ?_ ?_
            ·exact gz
            ·refine go ?_
             exact bk [1,35,36,37,52,53,54] [] 2 rfl
          ·refine go ?_
           exact je [1,35,36,37] [] 2 fun h=>⟨h,rfl⟩
       ·rintro e' ⟨h,rfl⟩; refine tl h ?_; unfold impl_CommitsOk_j3
        refine go ?_
        exact bk [1,35,36,37] [] 2 rfl
      ·refine go ?_
       exact je [] [] 2 fun h=>⟨h,rfl⟩
     ·rintro e' ⟨h,rfl⟩; refine tl h ?_; unfold impl_CommitsOk_j2
      exact gz
instance W_impl_StoreOk:∀ s,Wlk X (impl_StoreOk s) 51 [] [.agg [.list false 3 (List.map (zA false) s.Commits),.list false 2 (List.map (zB false) s.Files)]] (fun r'=>[.one (.sc (.bool r'))]) (fun r'=>[]):=fun s=>by
 refine ws f51 33 [.tmp 2] (h2 t3 (h2 t24 (h2 t25 (h2 t27 (h2 t33 (h2 t36 (h2 R_LLi64 (h2 qX (h2 zS (h2 qK (h2 zT (h2 jJ R_i64)))))))))))) ?_
 intro r'; unfold impl_StoreOk
 refine go ?_
 refine jn (fun e'=>impl_StoreOk_j1 s=some r'∧e'=⟨33,2,3,[(1,.pl (.one (.ref 2 [])))],[(2,.box true [.list false 3 (List.map (zA false) s.Commits),.list false 2 (List.map (zB false) s.Files)])]⟩) ?_ ?_
 ·refine go ?_
  refine lp (fun x8 e'=>e'=⟨33,2,3,[(1,.pl (.one (.ref 2 []))),(6,.pl (.one (.v (.list false 2 (List.map (zB false) s.Files))))),(7,.pl (.one (.v (.sc (.int .i64 (s.Files.length:Int)))))),(8,.pl (.one (.v (.sc (.int .i64 x8)))))],[(2,.box true [.list false 3 (List.map (zA false) s.Commits),.list false 2 (List.map (zB false) s.Files)])]⟩) [1,6,7,8] [(2,2)] 3 rfl ?_
  rintro x8 _ rfl y1'
  change Tl _ (impl_StoreOk_l1 s x8) _ _; unfold impl_StoreOk_l1
  refine go ?_
  refine sq ?_
  refine go ?_
  refine sp ?_ ?_
  ·refine go ?_
   refine sq ?_
   refine go ?_; intro x v'
   refine go ?_
   refine l1 ?_
   refine go ?_
   refine gc 4 (fun b_1 e'=>e'=⟨33,2,3,[(1,.pl (.one (.ref 2 []))),(6,.pl (.one (.v (.list false 2 (List.map (zB false) s.Files))))),(7,.pl (.one (.v (.sc (.int .i64 (s.Files.length:Int)))))),(8,.pl (.one (.v (.sc (.int .i64 x8))))),(20,.pl (.one (.v (.sc (.bool b_1)))))],[(2,.box true [.list false 3 (List.map (zA false) s.Commits),.list false 2 (List.map (zB false) s.Files)])]⟩) ?_ ?_
   ·intro p
    refine zY ?_ ?_
    ·refine go ?_
     exact ge [1,6,7,8,20] [(2,2)] 3 rfl
    ·refine go ?_; intro x18
     refine go ?_
     exact ge [1,6,7,8,20] [(2,2)] 3 rfl
   ·rintro b_1 _ rfl
    refine go ?_
    refine sp ?_ ?_
    ·exact gz
    ·refine go ?_
     exact bk [1,6,7,8] [(2,2)] 3 rfl
  ·refine go ?_
   exact je [1] [(2,2)] 3 fun h=>⟨h,rfl⟩
 ·rintro e' ⟨h,rfl⟩; refine tl h ?_; unfold impl_StoreOk_j1
  refine go ?_
  refine tF 2 ?_
  refine bx ?_; intro b gh0_7_0
  refine jr (fun e'=>e'=⟨33,2,2,[(2,.pl (.one (.v (.sc (.bool b)))))],[]⟩) ?_ ?_
  ·refine rc [0,1,2,3,4,5,6,7,8,9,10,11] ?_
   refine go ?_
   refine cs (fun c0=>?_) (fun c0=>?_)
   ·replace gh0_7_0:=(ifT c0).symm.trans gh0_7_0
    obtain ⟨x29,hy_x29,gh0_7_0⟩:=zbi gh0_7_0
    obtain ⟨x30,hy_x30,gh0_7_0⟩:=zbi gh0_7_0
    obtain ⟨x31,hy_x31,gh0_7_0⟩:=zbi gh0_7_0
    obtain rfl:=zso gh0_7_0
    refine go ?_
    refine cc hy_x29 ?_
    refine cc hy_x30 ?_
    refine cc hy_x31 ?_
    refine go ?_
    exact gq [2] [] 2 rfl
   ·replace gh0_7_0:=(ifF c0).symm.trans gh0_7_0
    obtain rfl:=zso gh0_7_0
    refine go ?_
    exact gq [2] [] 2 rfl
  ·rintro e' rfl; refine cn ?_
   exact gz
instance W_impl_Weave_linesAt:∀ w places,Wlk X (impl_Weave_linesAt w places) 142 [] [.one (.box false [.list false 1 (List.map (rL false 1 (rK .i64)) w.Parents),.list false 4 (List.map (zC false) w.Bodies)]),.one (.list false 1 (List.map (rK .i64) places))] (fun r'=>[.one (.list true 1 (List.map rS r'))]) (fun r'=>[]):=fun w places=>by
 refine ws f142 27 [.tmp 4] (h2 t3 (h2 t9 (h2 t34 (h2 t36 (h2 t37 (h2 t40 (h2 t73 (h2 qX (h2 zS (h2 R_i64 R_s)))))))))) ?_
 intro r'; unfold impl_Weave_linesAt
 refine go ?_
 refine l1 ?_
 refine go ?_
 refine l1 ?_
 refine go ?_
 refine jn (fun e'=>∃ out_,impl_Weave_linesAt_j1 out_=some r'∧e'=⟨27,2,3,[(5,.pl (.one (.ref 2 [])))],[(2,.list true 1 (List.map rS out_))]⟩) ?_ ?_
 ·refine go ?_
  refine lp (fun s' e'=>∃ x10 out__1,s'=(x10,out__1)∧e'=⟨27,2,3,[(0,.pl (.one (.v (.box false [.list false 1 (List.map (rL false 1 (rK .i64)) w.Parents),.list false 4 (List.map (zC false) w.Bodies)])))),(5,.pl (.one (.ref 2 []))),(8,.pl (.one (.v (.list false 1 (List.map (rK .i64) places))))),(9,.pl (.one (.v (.sc (.int .i64 (places.length:Int)))))),(10,.pl (.one (.v (.sc (.int .i64 x10)))))],[(2,.list true 1 (List.map rS out__1))]⟩) [0,5,8,9,10] [(3,2)] 3 ⟨_,_,rfl,rfl⟩ ?_
  rintro s' _ ⟨x10,out__1,rfl,rfl⟩ y1'
  change Tl _ (jM w places x10 out__1) _ _; unfold jM
  refine go ?_
  refine sq ?_
  refine go ?_
  refine sp ?_ ?_
  ·refine go ?_
   refine sq ?_
   refine go ?_; intro x v'
   refine go ?_; intro x_1 v'
   refine go ?_; intro l v'
   refine go ?_
   exact bk [0,5,8,9,10] [(2,2)] 3 ⟨_,_,rfl,rfl⟩
  ·refine go ?_
   exact je [5] [(2,2)] 3 fun h=>⟨_,h,rfl⟩
 ·rintro e' ⟨out_,h,rfl⟩; refine tl h ?_; unfold impl_Weave_linesAt_j1
  exact gz
instance W_impl_Weave_extract:∀ w v,Wlk X (impl_Weave_extract w v) 52 [] [.one (.box false [.list false 1 (List.map (rL false 1 (rK .i64)) w.Parents),.list false 4 (List.map (zC false) w.Bodies)]),.one (.sc (.int .i64 v))] (fun r'=>[.one (.list true 1 (List.map rS r'))]) (fun r'=>[]):=fun w v=>by
 refine ws f52 17 [.tmp 4] (h2 t33 (h2 t36 (h2 t136 (h2 t137 (h2 qX (h2 zS (h2 R_i64 (h2 R_s R_u64)))))))) ?_
 intro r'; unfold impl_Weave_extract
 refine go ?_
 refine l1 ?_
 refine go ?_; intro x11
 refine go ?_; intro x v'
 refine go ?_; intro x15
 refine go ?_; intro x16
 exact gz
instance W_impl_StatsOf:∀ s,Wlk X (impl_StatsOf s) 11 [] [.agg [.list false 3 (List.map (zA false) s.Commits),.list false 2 (List.map (zB false) s.Files)]] (fun r'=>[.agg [.sc (.int .i64 r'.1.Commits),.sc (.int .i64 r'.1.Files),.sc (.int .i64 r'.1.Versions),.sc (.int .i64 r'.1.Bodies),.sc (.int .i64 r'.1.Whole),.sc (.int .i64 r'.1.Bytes)],.one (.sc (.bool r'.2))]) (fun r'=>[]):=fun s=>by
 refine ws f11 73 [.cell 2 30,.tmp 3] (h2 t3 (h2 t9 (h2 t24 (h2 t25 (h2 t27 (h2 t30 (h2 t33 (h2 t34 (h2 t36 (h2 t37 (h2 t73 (h2 qX (h2 zS (h2 qK (h2 zT (h2 jJ (h2 R_i64 R_s))))))))))))))))) ?_
 intro r'; unfold impl_StatsOf
 refine go ?_
 refine l1 ?_
 refine go ?_
 refine sq ?_
 refine go ?_; intro x11
 refine go ?_
 refine sp ?_ ?_
 ·exact gz
 ·refine go ?_
  refine l1 ?_
  refine go ?_
  refine jn (fun e'=>∃ out_ out__1 out__2 out__3,impl_StatsOf_j1 s out_ out__1 out__2 out__3=some r'∧e'=⟨73,2,4,[(2,.pl (.one (.ref 2 []))),(4,.pl (.one (.ref 3 [])))],[(2,.box true [.sc (.int .i64 0),.sc (.int .i64 0),.sc (.int .i64 0),.sc (.int .i64 0),.sc (.int .i64 0),.sc (.int .i64 0)]),(3,.box true [.sc (.int .i64 (s.Commits.length:Int)),.sc (.int .i64 (s.Files.length:Int)),.sc (.int .i64 out_),.sc (.int .i64 out__1),.sc (.int .i64 out__2),.sc (.int .i64 out__3)])]⟩) ?_ ?_
  ·refine go ?_
   refine lp (fun s' e'=>∃ x24 out__4 out__5 out__6 out__7,s'=(x24,out__4,out__5,out__6,out__7)∧e'=⟨73,2,4,[(2,.pl (.one (.ref 2 []))),(4,.pl (.one (.ref 3 []))),(22,.pl (.one (.v (.list false 2 (List.map (zB false) s.Files))))),(23,.pl (.one (.v (.sc (.int .i64 (s.Files.length:Int)))))),(24,.pl (.one (.v (.sc (.int .i64 x24)))))],[(2,.box true [.sc (.int .i64 0),.sc (.int .i64 0),.sc (.int .i64 0),.sc (.int .i64 0),.sc (.int .i64 0),.sc (.int .i64 0)]),(3,.box true [.sc (.int .i64 (s.Commits.length:Int)),.sc (.int .i64 (s.Files.length:Int)),.sc (.int .i64 out__4),.sc (.int .i64 out__5),.sc (.int .i64 out__6),.sc (.int .i64 out__7)])]⟩) [2,4,22,23,24] [(3,2),(5,3)] 4 ⟨_,_,_,_,_,rfl,rfl⟩ ?_
   rintro s' _ ⟨x24,out__4,out__5,out__6,out__7,rfl,rfl⟩ y1'
   change Tl _ (impl_StatsOf_l1 s x24 out__4 out__5 out__6 out__7) _ _; unfold impl_StatsOf_l1
   refine go ?_
   refine sq ?_
   refine go ?_
   refine sp ?_ ?_
   ·refine go ?_
    refine jn (fun e'=>∃ out__8 out__9 out__10 out__11,impl_StatsOf_j2 x24 out__8 out__9 out__10 out__11=some y1'∧e'=⟨73,2,4,[(2,.pl (.one (.ref 2 []))),(4,.pl (.one (.ref 3 []))),(22,.pl (.one (.v (.list false 2 (List.map (zB false) s.Files))))),(23,.pl (.one (.v (.sc (.int .i64 (s.Files.length:Int)))))),(24,.pl (.one (.v (.sc (.int .i64 x24)))))],[(2,.box true [.sc (.int .i64 0),.sc (.int .i64 0),.sc (.int .i64 0),.sc (.int .i64 0),.sc (.int .i64 0),.sc (.int .i64 0)]),(3,.box true [.sc (.int .i64 (s.Commits.length:Int)),.sc (.int .i64 (s.Files.length:Int)),.sc (.int .i64 out__8),.sc (.int .i64 out__9),.sc (.int .i64 out__10),.sc (.int .i64 out__11)])]⟩) ?_ ?_
    ·refine go ?_; intro x v'
     refine go ?_
     refine l1 ?_
     refine go ?_
     refine jn (fun e'=>∃ out__12,impl_StatsOf_j3 x24 out__4 out__5 out__7 x out__12=some y1'∧e'=⟨73,2,5,[(2,.pl (.one (.ref 2 []))),(4,.pl (.one (.ref 3 []))),(6,.pl (.one (.ref 4 []))),(22,.pl (.one (.v (.list false 2 (List.map (zB false) s.Files))))),(23,.pl (.one (.v (.sc (.int .i64 (s.Files.length:Int)))))),(24,.pl (.one (.v (.sc (.int .i64 x24)))))],[(2,.box true [.sc (.int .i64 0),.sc (.int .i64 0),.sc (.int .i64 0),.sc (.int .i64 0),.sc (.int .i64 0),.sc (.int .i64 0)]),(3,.box true [.sc (.int .i64 (s.Commits.length:Int)),.sc (.int .i64 (s.Files.length:Int)),.sc (.int .i64 (wk .i64 (out__4+(x.Parents.length:Int)))),.sc (.int .i64 (wk .i64 (out__5+(x.Bodies.length:Int)))),.sc (.int .i64 out__12),.sc (.int .i64 out__7)]),(4,.box true [.list false 1 (List.map (rL false 1 (rK .i64)) x.Parents),.list false 4 (List.map (zC false) x.Bodies)])]⟩) ?_ ?_
     ·refine go ?_
      refine lp (fun s' e'=>∃ x45 out__14,s'=(x45,out__14)∧e'=⟨73,2,5,[(2,.pl (.one (.ref 2 []))),(4,.pl (.one (.ref 3 []))),(6,.pl (.one (.ref 4 []))),(22,.pl (.one (.v (.list false 2 (List.map (zB false) s.Files))))),(23,.pl (.one (.v (.sc (.int .i64 (s.Files.length:Int)))))),(24,.pl (.one (.v (.sc (.int .i64 x24))))),(44,.pl (.one (.v (.sc (.int .i64 (x.Parents.length:Int)))))),(45,.pl (.one (.v (.sc (.int .i64 x45)))))],[(2,.box true [.sc (.int .i64 0),.sc (.int .i64 0),.sc (.int .i64 0),.sc (.int .i64 0),.sc (.int .i64 0),.sc (.int .i64 0)]),(3,.box true [.sc (.int .i64 (s.Commits.length:Int)),.sc (.int .i64 (s.Files.length:Int)),.sc (.int .i64 (wk .i64 (out__4+(x.Parents.length:Int)))),.sc (.int .i64 (wk .i64 (out__5+(x.Bodies.length:Int)))),.sc (.int .i64 out__14),.sc (.int .i64 out__7)]),(4,.box true [.list false 1 (List.map (rL false 1 (rK .i64)) x.Parents),.list false 4 (List.map (zC false) x.Bodies)])]⟩) [2,4,6,22,23,24,44,45] [(2,2),(3,3),(4,4)] 5 ⟨_,_,rfl,rfl⟩ ?_
      rintro s' _ ⟨x45,out__14,rfl,rfl⟩ y2'
      change Tl _ (impl_StatsOf_l3 x x45 out__14) _ _; unfold impl_StatsOf_l3
      refine go ?_
      refine sq ?_
      refine go ?_
      refine sp ?_ ?_
      ·refine go ?_
       refine sq ?_
       refine go ?_
       refine rc [0,2,1,3,4,5,6,7] ?_
       refine go ?_; intro x51
       refine go ?_
       exact bk [2,4,6,22,23,24,44,45] [(2,2),(3,3),(4,4)] 5 ⟨_,_,rfl,rfl⟩
      ·refine go ?_
       exact je [2,4,6,22,23,24] [(2,2),(3,3),(4,4)] 5 fun h=>⟨_,h,rfl⟩
     ·rintro e' ⟨out__12,h,rfl⟩; refine tl h ?_; unfold impl_StatsOf_j3
      refine go ?_
      refine lp (fun s' e'=>∃ x59 out__13,s'=(x59,out__13)∧e'=⟨73,2,4,[(2,.pl (.one (.ref 2 []))),(4,.pl (.one (.ref 3 []))),(22,.pl (.one (.v (.list false 2 (List.map (zB false) s.Files))))),(23,.pl (.one (.v (.sc (.int .i64 (s.Files.length:Int)))))),(24,.pl (.one (.v (.sc (.int .i64 x24))))),(57,.pl (.one (.v (.list false 4 (List.map (zC false) x.Bodies))))),(58,.pl (.one (.v (.sc (.int .i64 (x.Bodies.length:Int)))))),(59,.pl (.one (.v (.sc (.int .i64 x59)))))],[(2,.box true [.sc (.int .i64 0),.sc (.int .i64 0),.sc (.int .i64 0),.sc (.int .i64 0),.sc (.int .i64 0),.sc (.int .i64 0)]),(3,.box true [.sc (.int .i64 (s.Commits.length:Int)),.sc (.int .i64 (s.Files.length:Int)),.sc (.int .i64 (wk .i64 (out__4+(x.Parents.length:Int)))),.sc (.int .i64 (wk .i64 (out__5+(x.Bodies.length:Int)))),.sc (.int .i64 out__12),.sc (.int .i64 out__13)])]⟩) [2,4,22,23,24,57,58,59] [(2,2),(3,3)] 4 ⟨_,_,rfl,rfl⟩ ?_
      rintro s' _ ⟨x59,out__13,rfl,rfl⟩ y2'
      change Tl _ (impl_StatsOf_l2 x x59 out__13) _ _; unfold impl_StatsOf_l2
      refine go ?_
      refine sq ?_
      refine go ?_
      refine sp ?_ ?_
      ·refine go ?_
       refine sq ?_
       refine go ?_; intro x_1 v'
       refine go ?_
       refine l1 ?_
       refine go ?_
       exact bk [2,4,22,23,24,57,58,59] [(2,2),(3,3)] 4 ⟨_,_,rfl,rfl⟩
      ·refine go ?_
       exact je [2,4,22,23,24] [(2,2),(3,3)] 4 fun h=>⟨_,_,_,_,h,rfl⟩
    ·rintro e' ⟨out__8,out__9,out__10,out__11,h,rfl⟩; refine tl h ?_; unfold impl_StatsOf_j2
     refine go ?_
     exact bk [2,4,22,23,24] [(2,2),(3,3)] 4 ⟨_,_,_,_,_,rfl,rfl⟩
   ·refine go ?_
    exact je [2,4] [(2,2),(3,3)] 4 fun h=>⟨_,_,_,_,h,rfl⟩
  ·rintro e' ⟨out_,out__1,out__2,out__3,h,rfl⟩; refine tl h ?_; unfold impl_StatsOf_j1
   exact gz
instance W_spec_GraphOk:∀ parents,Wlk X (spec_GraphOk parents) 143 [] [.one (.list false 1 (List.map (rL false 1 (rK .i64)) parents))] (fun r'=>[.one (.sc (.bool r'))]) (fun r'=>[]):=fun parents=>by
 refine ws f143 28 [.tmp 2] (h2 t3 (h2 t33 (h2 t40 (h2 qX R_i64)))) ?_
 intro r'; unfold spec_GraphOk
 refine go ?_
 refine sq ?_
 refine go ?_
 refine sp ?_ ?_
 ·exact gz
 ·refine go ?_
  refine jn (fun e'=>spec_GraphOk_j1=some r'∧e'=⟨28,1,1,[],[]⟩) ?_ ?_
  ·refine go ?_
   refine lp (fun v e'=>e'=⟨28,1,1,[(0,.pl (.one (.v (.list false 1 (List.map (rL false 1 (rK .i64)) parents))))),(3,.pl (.one (.v (.sc (.int .i64 v)))))],[]⟩) [0,3] [] 1 rfl ?_
   rintro v _ rfl y1'
   change Tl _ (jU parents v) _ _; unfold jU
   refine sq ?_
   refine go ?_
   refine sp ?_ ?_
   ·refine go ?_
    refine sq ?_
    refine go ?_; intro x v'
    refine go ?_
    refine gc 8 (fun b e'=>e'=⟨28,1,1,[(0,.pl (.one (.v (.list false 1 (List.map (rL false 1 (rK .i64)) parents))))),(3,.pl (.one (.v (.sc (.int .i64 v))))),(27,.pl (.one (.v (.sc (.bool b)))))],[]⟩) ?_ ?_
    ·intro p
     refine zY ?_ ?_
     ·refine go ?_
      exact ge [0,3,27] [] 1 rfl
     ·refine go ?_; intro x25
      refine go ?_
      exact ge [0,3,27] [] 1 rfl
    ·rintro b _ rfl
     refine go ?_
     refine sp ?_ ?_
     ·exact gz
     ·refine go ?_
      exact bk [0,3] [] 1 rfl
   ·refine go ?_
    exact je [] [] 1 fun h=>⟨h,rfl⟩
  ·rintro e' ⟨h,rfl⟩; refine tl h ?_; unfold spec_GraphOk_j1
   exact gz
instance W_spec_WeaveOk:∀ w,Wlk X (spec_WeaveOk w) 53 [] [.agg [.list false 1 (List.map (rL false 1 (rK .i64)) w.Parents),.list false 4 (List.map (zC false) w.Bodies)]] (fun r'=>[.one (.sc (.bool r'))]) (fun r'=>[]):=fun w=>by
 refine ws f53 131 [.tmp 2] (h2 t3 (h2 t9 (h2 t33 (h2 t34 (h2 t36 (h2 t40 (h2 t73 (h2 t201 (h2 t202 (h2 R_Lb (h2 qX (h2 zS (h2 R_b R_i64))))))))))))) ?_
 intro r'; unfold spec_WeaveOk
 refine go ?_
 refine sq ?_
 refine go ?_; intro x13
 refine go ?_
 refine gc 5 (fun b e'=>e'=⟨131,2,3,[(1,.pl (.one (.ref 2 []))),(20,.pl (.one (.v (.sc (.bool b)))))],[(2,.box true [.list false 1 (List.map (rL false 1 (rK .i64)) w.Parents),.list false 4 (List.map (zC false) w.Bodies)])]⟩) ?_ ?_
 ·intro p
  refine zY ?_ ?_
  ·refine go ?_
   exact ge [1,20] [(2,2)] 3 rfl
  ·refine go ?_
   exact ge [1,20] [(2,2)] 3 rfl
 ·rintro b _ rfl
  refine go ?_
  refine sp ?_ ?_
  ·exact gz
  ·refine go ?_; intro x25 v'
   refine go ?_
   refine jn (fun e'=>∃ proper,spec_WeaveOk_j1 w x25 proper=some r'∧e'=⟨131,2,5,[(1,.pl (.one (.ref 2 []))),(3,.pl (.one (.v (.sc (.int .i64 (w.Parents.length:Int)))))),(4,.pl (.one (.ref 3 []))),(5,.pl (.one (.ref 4 [])))],[(2,.box true [.list false 1 (List.map (rL false 1 (rK .i64)) w.Parents),.list false 4 (List.map (zC false) w.Bodies)]),(3,.list true 1 (List.map (rK .i64) x25)),(4,.list true 1 (List.map (rL true 1 rB) proper))]⟩) ?_ ?_
   ·refine go ?_
    refine lp (fun s' e'=>∃ v_1 proper_1,s'=(v_1,proper_1)∧e'=⟨131,2,5,[(1,.pl (.one (.ref 2 []))),(3,.pl (.one (.v (.sc (.int .i64 (w.Parents.length:Int)))))),(4,.pl (.one (.ref 3 []))),(5,.pl (.one (.ref 4 []))),(6,.pl (.one (.v (.sc (.int .i64 v_1)))))],[(2,.box true [.list false 1 (List.map (rL false 1 (rK .i64)) w.Parents),.list false 4 (List.map (zC false) w.Bodies)]),(3,.list true 1 (List.map (rK .i64) x25)),(4,.list true 1 (List.map (rL true 1 rB) proper_1))]⟩) [1,3,4,5,6] [(2,2),(3,3),(4,4)] 5 ⟨_,_,rfl,rfl⟩ ?_
    rintro s' _ ⟨v_1,proper_1,rfl,rfl⟩ y1'
    change Tl _ (spec_WeaveOk_l4 w v_1 proper_1) _ _; unfold spec_WeaveOk_l4
    refine sq ?_
    refine go ?_
    refine sp ?_ ?_
    ·refine go ?_
     refine sq ?_
     refine go ?_
     refine rc [0,1,2,3,4,5,6,7,8,9,10,11] ?_
     refine go ?_; intro x_6 v'
     refine go ?_; intro x40
     refine go ?_; intro l v'
     refine go ?_
     exact bk [1,3,4,5,6] [(2,2),(3,3),(4,4)] 5 ⟨_,_,rfl,rfl⟩
    ·refine go ?_
     exact je [1,3,4,5] [(2,2),(3,3),(4,4)] 5 fun h=>⟨_,h,rfl⟩
   ·rintro e' ⟨proper,h,rfl⟩; refine tl h ?_; unfold spec_WeaveOk_j1
    refine jn (fun e'=>∃ born,spec_WeaveOk_j2 w born=some r'∧e'=⟨131,2,4,[(1,.pl (.one (.ref 2 []))),(3,.pl (.one (.v (.sc (.int .i64 (w.Parents.length:Int)))))),(4,.pl (.one (.ref 3 [])))],[(2,.box true [.list false 1 (List.map (rL false 1 (rK .i64)) w.Parents),.list false 4 (List.map (zC false) w.Bodies)]),(3,.list true 1 (List.map (rK .i64) born))]⟩) ?_ ?_
    ·refine go ?_
     refine lp (fun s' e'=>∃ i born_1,s'=(i,born_1)∧e'=⟨131,2,5,[(1,.pl (.one (.ref 2 []))),(3,.pl (.one (.v (.sc (.int .i64 (w.Parents.length:Int)))))),(4,.pl (.one (.ref 3 []))),(5,.pl (.one (.ref 4 []))),(7,.pl (.one (.v (.sc (.int .i64 i)))))],[(2,.box true [.list false 1 (List.map (rL false 1 (rK .i64)) w.Parents),.list false 4 (List.map (zC false) w.Bodies)]),(3,.list true 1 (List.map (rK .i64) born_1)),(4,.list true 1 (List.map (rL true 1 rB) proper))]⟩) [1,3,4,5,7] [(2,2),(3,3),(4,4)] 5 ⟨_,_,rfl,rfl⟩ ?_
     rintro s' _ ⟨i,born_1,rfl,rfl⟩ y1'
     change Tl _ (jP w proper i born_1) _ _; unfold jP
     refine sq ?_
     refine go ?_
     refine sp ?_ ?_
     ·refine go ?_
      refine jn (fun e'=>∃ born_2,spec_WeaveOk_j4 i born_2=some y1'∧e'=⟨131,2,5,[(1,.pl (.one (.ref 2 []))),(3,.pl (.one (.v (.sc (.int .i64 (w.Parents.length:Int)))))),(4,.pl (.one (.ref 3 []))),(5,.pl (.one (.ref 4 []))),(7,.pl (.one (.v (.sc (.int .i64 i)))))],[(2,.box true [.list false 1 (List.map (rL false 1 (rK .i64)) w.Parents),.list false 4 (List.map (zC false) w.Bodies)]),(3,.list true 1 (List.map (rK .i64) born_2)),(4,.list true 1 (List.map (rL true 1 rB) proper))]⟩) ?_ ?_
      ·refine go ?_; intro x_1 v'
       refine go ?_
       refine l1 ?_
       refine go ?_
       refine sq ?_
       refine go ?_
       refine rq ?_
       refine go ?_; intro x57
       refine go ?_
       refine qc 7 (fun b_2 e'=>e'=⟨131,2,6,[(1,.pl (.one (.ref 2 []))),(3,.pl (.one (.v (.sc (.int .i64 (w.Parents.length:Int)))))),(4,.pl (.one (.ref 3 []))),(5,.pl (.one (.ref 4 []))),(7,.pl (.one (.v (.sc (.int .i64 i))))),(8,.pl (.one (.ref 5 []))),(66,.pl (.one (.v (.sc (.bool b_2)))))],[(2,.box true [.list false 1 (List.map (rL false 1 (rK .i64)) w.Parents),.list false 4 (List.map (zC false) w.Bodies)]),(3,.list true 1 (List.map (rK .i64) born_1)),(4,.list true 1 (List.map (rL true 1 rB) proper)),(5,.box true [.sc (.string x_1.Line),.sc (.int .i64 x_1.Ins),.sc (.int .i64 x_1.Ord),.list false 1 (List.map (rK .i64) x_1.Dels)])]⟩) ?_ ?_
       ·intro p
        refine quV_spR ?_ ?_
        ·refine go ?_
         exact ge [1,3,4,5,7,8,66] [(2,2),(3,3),(4,4),(5,5)] 6 rfl
        ·refine go ?_; intro x64
         refine go ?_
         exact ge [1,3,4,5,7,8,66] [(2,2),(3,3),(4,4),(5,5)] 6 rfl
       ·rintro b_2 _ rfl
        refine go ?_
        refine qc 9 (fun b_3 e'=>e'=⟨131,2,6,[(1,.pl (.one (.ref 2 []))),(3,.pl (.one (.v (.sc (.int .i64 (w.Parents.length:Int)))))),(4,.pl (.one (.ref 3 []))),(5,.pl (.one (.ref 4 []))),(7,.pl (.one (.v (.sc (.int .i64 i))))),(8,.pl (.one (.ref 5 []))),(76,.pl (.one (.v (.sc (.bool b_3)))))],[(2,.box true [.list false 1 (List.map (rL false 1 (rK .i64)) w.Parents),.list false 4 (List.map (zC false) w.Bodies)]),(3,.list true 1 (List.map (rK .i64) born_1)),(4,.list true 1 (List.map (rL true 1 rB) proper)),(5,.box true [.sc (.string x_1.Line),.sc (.int .i64 x_1.Ins),.sc (.int .i64 x_1.Ord),.list false 1 (List.map (rK .i64) x_1.Dels)])]⟩) ?_ ?_
        ·intro p
         refine quV_spR ?_ ?_
         ·refine go ?_
          exact ge [1,3,4,5,7,8,76] [(2,2),(3,3),(4,4),(5,5)] 6 rfl
         ·refine go ?_; intro x_2 v'
          refine go ?_
          exact ge [1,3,4,5,7,8,76] [(2,2),(3,3),(4,4),(5,5)] 6 rfl
        ·rintro b_3 _ rfl
         refine go ?_
         refine qc 6 (fun b_4 e'=>e'=⟨131,2,6,[(1,.pl (.one (.ref 2 []))),(3,.pl (.one (.v (.sc (.int .i64 (w.Parents.length:Int)))))),(4,.pl (.one (.ref 3 []))),(5,.pl (.one (.ref 4 []))),(7,.pl (.one (.v (.sc (.int .i64 i))))),(8,.pl (.one (.ref 5 []))),(83,.pl (.one (.v (.sc (.bool b_4)))))],[(2,.box true [.list false 1 (List.map (rL false 1 (rK .i64)) w.Parents),.list false 4 (List.map (zC false) w.Bodies)]),(3,.list true 1 (List.map (rK .i64) born_1)),(4,.list true 1 (List.map (rL true 1 rB) proper)),(5,.box true [.sc (.string x_1.Line),.sc (.int .i64 x_1.Ins),.sc (.int .i64 x_1.Ord),.list false 1 (List.map (rK .i64) x_1.Dels)])]⟩) ?_ ?_
         ·intro p
          refine quV_spR ?_ ?_
          ·refine go ?_
           exact ge [1,3,4,5,7,8,83] [(2,2),(3,3),(4,4),(5,5)] 6 rfl
          ·refine go ?_; intro x81
           refine go ?_
           exact ge [1,3,4,5,7,8,83] [(2,2),(3,3),(4,4),(5,5)] 6 rfl
         ·rintro b_4 _ rfl
          refine go ?_
          refine sp ?_ ?_
          ·exact gz
          ·refine go ?_
           refine rc [0,1,2,3,4,5,6,7,8,9,10] ?_
           refine go ?_; intro x_3 v'
           refine go ?_
           refine lp (fun k e'=>e'=⟨131,2,6,[(1,.pl (.one (.ref 2 []))),(3,.pl (.one (.v (.sc (.int .i64 (w.Parents.length:Int)))))),(4,.pl (.one (.ref 3 []))),(5,.pl (.one (.ref 4 []))),(7,.pl (.one (.v (.sc (.int .i64 i))))),(8,.pl (.one (.ref 5 []))),(9,.pl (.one (.v (.sc (.int .i64 k)))))],[(2,.box true [.list false 1 (List.map (rL false 1 (rK .i64)) w.Parents),.list false 4 (List.map (zC false) w.Bodies)]),(3,.list true 1 (List.map (rK .i64) (born_1.set x_1.Ins.toNat (wk .i64 (x_3+1))))),(4,.list true 1 (List.map (rL true 1 rB) proper)),(5,.box true [.sc (.string x_1.Line),.sc (.int .i64 x_1.Ins),.sc (.int .i64 x_1.Ord),.list false 1 (List.map (rK .i64) x_1.Dels)])]⟩) [1,3,4,5,7,8,9] [(2,2),(3,3),(4,4),(5,5)] 6 rfl ?_
           rintro k _ rfl y2'
           change Tl _ (spec_WeaveOk_l3 proper x_1 k) _ _; unfold spec_WeaveOk_l3
           refine sq ?_
           refine go ?_
           refine sp ?_ ?_
           ·refine go ?_
            refine sq ?_
            refine go ?_
            refine rq ?_
            refine go ?_; intro x_4 v'
            refine go ?_; intro x_5 v'
            refine go ?_; intro x110
            refine go ?_
            refine sp ?_ ?_
            ·exact gz
            ·refine go ?_
             exact bk [1,3,4,5,7,8,9] [(2,2),(3,3),(4,4),(5,5)] 6 rfl
           ·refine go ?_
            exact je [1,3,4,5,7] [(2,2),(3,3),(4,4)] 5 fun h=>⟨_,h,rfl⟩
      ·rintro e' ⟨born_2,h,rfl⟩; refine tl h ?_; unfold spec_WeaveOk_j4
       refine go ?_
       exact bk [1,3,4,5,7] [(2,2),(3,3),(4,4)] 5 ⟨_,_,rfl,rfl⟩
     ·refine go ?_
      exact je [1,3,4] [(2,2),(3,3)] 4 fun h=>⟨_,h,rfl⟩
    ·rintro e' ⟨born,h,rfl⟩; refine tl h ?_; unfold spec_WeaveOk_j2
     refine jn (fun e'=>spec_WeaveOk_j3=some r'∧e'=⟨131,2,2,[],[]⟩) ?_ ?_
     ·refine go ?_
      refine lp (fun v e'=>e'=⟨131,2,4,[(1,.pl (.one (.ref 2 []))),(3,.pl (.one (.v (.sc (.int .i64 (w.Parents.length:Int)))))),(4,.pl (.one (.ref 3 []))),(10,.pl (.one (.v (.sc (.int .i64 v)))))],[(2,.box true [.list false 1 (List.map (rL false 1 (rK .i64)) w.Parents),.list false 4 (List.map (zC false) w.Bodies)]),(3,.list true 1 (List.map (rK .i64) born))]⟩) [1,3,4,10] [(2,2),(3,3)] 4 rfl ?_
      rintro v _ rfl y1'
      change Tl _ (spec_WeaveOk_l1 w born v) _ _; unfold spec_WeaveOk_l1
      refine sq ?_
      refine go ?_
      refine sp ?_ ?_
      ·refine go ?_
       refine sq ?_
       refine go ?_
       refine bx ?_; intro x v'; refine fk (geti_f v') ?_
       refine bx ?_; intro b_1 gh0_25_0
       refine jr (fun e'=>e'=⟨131,2,4,[(1,.pl (.one (.ref 2 []))),(3,.pl (.one (.v (.sc (.int .i64 (w.Parents.length:Int)))))),(4,.pl (.one (.ref 3 []))),(10,.pl (.one (.v (.sc (.int .i64 v))))),(130,.pl (.one (.v (.sc (.bool b_1)))))],[(2,.box true [.list false 1 (List.map (rL false 1 (rK .i64)) w.Parents),.list false 4 (List.map (zC false) w.Bodies)]),(3,.list true 1 (List.map (rK .i64) born))]⟩) ?_ ?_
       ·refine rc [0,1,2,3,4,5,6,7,8,9,10,11,12,13] ?_
        refine go ?_
        refine cs (fun c0=>?_) (fun c0=>?_)
        ·replace gh0_25_0:=(ifT c0).symm.trans gh0_25_0
         obtain rfl:=zso gh0_25_0
         refine go ?_
         exact gq [1,3,4,10,130] [(2,2),(3,3)] 4 rfl
        ·replace gh0_25_0:=(ifF c0).symm.trans gh0_25_0
         obtain ⟨x126,hy_x126,gh0_25_0⟩:=zbi gh0_25_0
         obtain ⟨x127,hy_x127,gh0_25_0⟩:=zbi gh0_25_0
         obtain rfl:=zso gh0_25_0
         refine go ?_
         refine cc hy_x126 ?_
         refine cc hy_x127 ?_
         refine go ?_
         exact gq [1,3,4,10,130] [(2,2),(3,3)] 4 rfl
       ·rintro e' rfl; refine cn ?_
        refine sp ?_ ?_
        ·exact gz
        ·refine go ?_
         exact bk [1,3,4,10] [(2,2),(3,3)] 4 rfl
      ·refine go ?_
       exact je [] [] 2 fun h=>⟨h,rfl⟩
     ·rintro e' ⟨h,rfl⟩; refine tl h ?_; unfold spec_WeaveOk_j3
      exact gz
instance W_spec_l06Has:∀ w v,Wlk X (spec_l06Has w v) 54 [] [.agg [.list false 1 (List.map (rL false 1 (rK .i64)) w.Parents),.list false 4 (List.map (zC false) w.Bodies)],.one (.sc (.int .i64 v))] (fun r'=>[.one (.sc (.bool r'))]) (fun r'=>[]):=fun w v=>by
 refine ws f54 11 [.tmp 4] (h2 t3 (h2 t33 (h2 t36 (h2 qX (h2 zS R_i64))))) ?_
 intro r'; unfold spec_l06Has
 refine go ?_; intro x10
 exact gz
instance W_spec_Extract:∀ w v,Wlk X (spec_Extract w v) 12 [] [.agg [.list false 1 (List.map (rL false 1 (rK .i64)) w.Parents),.list false 4 (List.map (zC false) w.Bodies)],.one (.sc (.int .i64 v))] (fun r'=>[.one (.list true 1 (List.map rS r'.1)),.one (.sc (.int .i64 r'.2))]) (fun r'=>[]):=fun w v=>by
 refine ws f12 18 [.tmp 4,.tmp 5] (h2 t9 (h2 t36 (h2 t37 (h2 qX (h2 zS (h2 R_i64 R_s)))))) ?_
 intro r'; unfold spec_Extract
 refine go ?_
 refine l1 ?_
 refine go ?_
 refine sq ?_
 refine go ?_; intro x7
 refine go ?_
 refine sp ?_ ?_
 ·exact gz
 ·refine go ?_
  refine sq ?_
  refine go ?_; intro x12
  refine go ?_
  refine sp ?_ ?_
  ·exact gz
  ·refine go ?_; intro x17
   exact gz
theorem W_slices_Clone_impl_Name_impl_Name (s:List T_impl_Name) (r':List T_impl_Name) (h0':jL s=some r'):Fn X 219 [.one (.list false 3 (List.map (zD true) s))] [.one (.list true 3 (List.map (zD true) r'))] []:=by
 have H':=And.intro t41 (And.intro t45 (zT))
 unfold jL at h0'
 refine Fn.start (fn:=f219) (N:=8) (res:=[.tmp 2]) rfl rfl rfl rfl rfl (by simp) ?_
 refine enterG H' ?_
 refine wpV_seq1 ?_
 refine wpV_region ?_
 refine opsV_nilA H' 3 ?_
 refine opsN ?_
 refine wpV_seq1 ?_
 refine wpV_seq1 ?_
 refine wpV_region ?_
 refine ops H' ?_
 refine opsV_nilEq H' (fun b' hb'=>?_)
 refine opsN ?_
 refine wpV_split (fun hc'=>?_) (fun hc'=>?_)
 ·have hs':s=[]:=by simpa using hb' hc'
  subst hs'
  obtain rfl:r'=[]:=by simpa [appn] using h0'.symm
  refine wpV_seq1 ?_
  refine wpV_region ?_
  refine opsV_nilA H' 3 ?_
  refine opsN ?_
  refine retN ?_
  exact outG H' rfl rfl
 ·refine skipN ?_
  refine wpV_seq1 ?_
  refine wpV_region ?_
  have H':=And.intro (appz_f (zD true) h0') H'
  refine ops H' ?_
  refine opsN ?_
  refine retN ?_
  exact outG H' rfl rfl
instance:∀ s,Wlk X (jL s) 219 [] [.one (.list false 3 (List.map (zD true) s))] (fun r'=>[.one (.list true 3 (List.map (zD true) r'))]) (fun r'=>[]):=fun s=>⟨fun r' h=>W_slices_Clone_impl_Name_impl_Name s r' h⟩
instance W_impl_NamesAt:∀ s c,Wlk X (impl_NamesAt s c) 151 [] [.agg [.list false 3 (List.map (zA false) s.Commits),.list false 2 (List.map (zB false) s.Files)],.one (.sc (.int .i64 c))] (fun r'=>[.one (.list true 3 (List.map (zD true) r'.1)),.one (.sc (.int .i64 r'.2))]) (fun r'=>[]):=fun s c=>by
 refine ws f151 24 [.tmp 4,.tmp 5] (h2 t24 (h2 t27 (h2 t41 (h2 t43 (h2 qX (h2 zS (h2 qK (h2 zT (h2 jJ R_i64))))))))) ?_
 intro r'; unfold impl_NamesAt
 refine go ?_
 refine lf ?_ (fun a g=>opsV_nilA a 3 g)
 refine go ?_
 refine sq ?_
 refine go ?_; intro x8
 refine go ?_
 refine sp ?_ ?_
 ·refine go ?_
  refine lf ?_ (fun a g=>opsV_nilA a 3 g)
  exact gz
 ·refine go ?_; intro x15
  refine go ?_
  refine sp ?_ ?_
  ·refine go ?_
   refine lf ?_ (fun a g=>opsV_nilA a 3 g)
   exact gz
  ·refine go ?_; intro x v'
   refine go ?_; intro x23
   exact gz
instance W_impl_pathAt_c1:∀ n c,Wlk X (impl_pathAt_c1 n c) 221 [] [.agg [.sc (.string n.Path),.sc (.int .i64 n.Id),.sc (.int .i64 n.Version)],.one (.box false [.sc (.string c)])] (fun r'=>[.one (.sc (.bool r'))]) (fun r'=>[]):=fun n c=>by
 refine ws f221 8 [.tmp 3] (h2 t9 t45) ?_
 intro r'; unfold impl_pathAt_c1
 exact gz
instance W_impl_pathAt:∀ list_ path,Wlk X (impl_pathAt list_ path) 152 [] [.one (.list false 3 (List.map (zD true) list_)),.one (.sc (.string path))] (fun r'=>[.one (.sc (.int .i64 r'))]) (fun r'=>[]):=fun list_ path=>by
 refine ws f152 8 [.tmp 4] zT ?_
 intro r'; unfold impl_pathAt
 refine go ?_
 refine oF 2 ?_
 refine lf ?_ (fun a g=>opsV_mkF a g)
 refine go ?_
 refine cNW [] [] (fun x h=>W_slices_IndexFunc_impl_Name_impl_Name__1 _ (fun z0'=>impl_pathAt_c1 z0' path) _ _ (fun z0' r' h'=>(W_impl_pathAt_c1 z0' _).w r' h') _ h) ?_; intro x7
 exact gz
instance W_impl_nameAt:∀ s c path,Wlk X (impl_nameAt s c path) 56 [] [.agg [.list false 3 (List.map (zA false) s.Commits),.list false 2 (List.map (zB false) s.Files)],.one (.sc (.int .i64 c)),.one (.sc (.string path))] (fun r'=>[.agg [.sc (.string r'.1.Path),.sc (.int .i64 r'.1.Id),.sc (.int .i64 r'.1.Version)],.one (.sc (.int .i64 r'.2))]) (fun r'=>[]):=fun s c path=>by
 refine ws f56 31 [.cell 6 45,.tmp 7] (h2 t3 (h2 t9 (h2 t27 (h2 t41 (h2 t45 (h2 qX (h2 zS (h2 qK (h2 zT (h2 jJ R_i64)))))))))) ?_
 intro r'; unfold impl_nameAt
 refine go ?_
 refine l1 ?_
 refine go ?_; intro x14
 refine go ?_
 refine sq ?_
 refine go ?_
 refine sp ?_ ?_
 ·exact gz
 ·refine go ?_; intro x23
  refine go ?_
  refine sq ?_
  refine go ?_
  refine sp ?_ ?_
  ·exact gz
  ·refine go ?_; intro x v'
   exact gz
instance W_impl_set_list:∀ s,Wlk X (impl_set_list s) 89 [] [.one (.sc (.int .u64 s))] (fun r'=>[.one (.list true 1 (List.map (rK .i64) r'))]) (fun r'=>[]):=fun s=>by
 refine ws f89 17 [.tmp 2] (h2 t3 (h2 t40 R_i64)) ?_
 intro r'; unfold impl_set_list
 refine go ?_
 refine l1 ?_
 refine go ?_
 refine l1 ?_
 refine go ?_
 refine jn (fun e'=>∃ out_,impl_set_list_j1 out_=some r'∧e'=⟨17,1,2,[(3,.pl (.one (.ref 1 [])))],[(1,.list true 1 (List.map (rK .i64) out_))]⟩) ?_ ?_
 ·refine go ?_
  refine lp (fun s' e'=>∃ x5 out__1,s'=(x5,out__1)∧e'=⟨17,1,2,[(0,.pl (.one (.v (.sc (.int .u64 s))))),(3,.pl (.one (.ref 1 []))),(5,.pl (.one (.v (.sc (.int .i64 x5)))))],[(1,.list true 1 (List.map (rK .i64) out__1))]⟩) [0,3,5] [(2,1)] 2 ⟨_,_,rfl,rfl⟩ ?_
  rintro s' _ ⟨x5,out__1,rfl,rfl⟩ y1'
  change Tl _ (impl_set_list_l1 s x5 out__1) _ _; unfold impl_set_list_l1
  refine go ?_
  refine sq ?_
  refine go ?_
  refine sp ?_ ?_
  ·refine go ?_
   refine sq ?_
   refine go ?_; intro x10
   refine go ?_
   refine sp ?_ ?_
   ·refine go ?_; intro l v'
    refine go ?_
    exact bk [0,3,5] [(1,1)] 2 ⟨_,_,rfl,rfl⟩
   ·refine go ?_
    exact bk [0,3,5] [(1,1)] 2 ⟨_,_,rfl,rfl⟩
  ·refine go ?_
   exact je [3] [(1,1)] 2 fun h=>⟨_,h,rfl⟩
 ·rintro e' ⟨out_,h,rfl⟩; refine tl h ?_; unfold impl_set_list_j1
  exact gz
instance W_slices_Reverse_int_int:∀ s,Wlk X (slices_Reverse_int_int s) 154 [0] [.one (.list true 1 (List.map (rK .i64) s))] (fun r'=>[]) (fun r'=>[(0,.list true 1 (List.map (rK .i64) r'))]):=fun s=>by
 refine ws f154 28 [] (h2 t3 (h2 t40 R_i64)) ?_
 intro r'; unfold slices_Reverse_int_int
 refine go ?_
 refine lp (fun s' e'=>∃ i j s_1,s'=(i,j,s_1)∧e'=⟨28,1,1,[(0,.pl (.one (.ref 0 []))),(2,.pl (.one (.v (.sc (.int .i64 i))))),(3,.pl (.one (.v (.sc (.int .i64 j)))))],[(0,.list true 1 (List.map (rK .i64) s_1))]⟩) [0,2,3] [(0,0)] 1 ⟨_,_,_,rfl,rfl⟩ ?_
 rintro s' _ ⟨i,j,s_1,rfl,rfl⟩ y1'
 change Tl _ (xB i j s_1) _ _; unfold xB
 refine sq ?_
 refine go ?_
 refine sp ?_ ?_
 ·refine go ?_
  refine sq ?_
  refine go ?_
  refine rc [0,1,2,3,4,5,6,7,8,9,10,11,12,13,14,15] ?_
  refine go ?_; intro x v'
  refine go ?_; intro x_1 v'
  refine go ?_; intro x_2 v'
  refine go ?_
  exact bk [0,2,3] [(0,0)] 1 ⟨_,_,_,rfl,rfl⟩
 ·exact gz
instance W_impl_LogOf:∀ list_ versions c,Wlk X (impl_LogOf list_ versions c) 57 [] [.one (.list false 3 (List.map (zA false) list_)),.one (.list false 1 (List.map (rK .i64) versions)),.one (.sc (.int .i64 c))] (fun r'=>[.one (.list true 1 (List.map (rK .i64) r'))]) (fun r'=>[]):=fun list_ versions c=>by
 refine ws f57 29 [.tmp 6] (h2 t24 (h2 t136 (h2 t137 (h2 qX (h2 qK (h2 zT (h2 R_i64 R_u64))))))) ?_
 intro r'; unfold impl_LogOf
 refine go ?_
 refine l1 ?_
 refine go ?_
 refine sq ?_
 refine go ?_; intro x11
 refine go ?_
 refine gc 5 (fun b e'=>e'=⟨29,3,3,[(0,.pl (.one (.v (.list false 3 (List.map (zA false) list_))))),(2,.pl (.one (.v (.sc (.int .i64 c))))),(18,.pl (.one (.v (.sc (.bool b)))))],[]⟩) ?_ ?_
 ·intro p
  refine zY ?_ ?_
  ·refine go ?_
   exact ge [0,2,18] [] 3 rfl
  ·refine go ?_; intro x16
   refine go ?_
   exact ge [0,2,18] [] 3 rfl
 ·rintro b _ rfl
  refine go ?_
  refine sp ?_ ?_
  ·refine go ?_
   refine l1 ?_
   exact gz
  ·refine go ?_; intro x20
   refine go ?_; intro x21
   refine go ?_; intro x v'
   refine go ?_; intro x25
   refine go ?_; intro x27
   exact gz
end Go.TV.KFnStats
