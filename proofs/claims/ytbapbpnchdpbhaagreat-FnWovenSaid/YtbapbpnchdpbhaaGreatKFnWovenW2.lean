/- Walks. -/
import Derived.Test.YtbapbpnchdpbhaaGreatKFnWovenE
import Derived.Test.YtbapbpnchdpbhaaGreatKFnWovenW0
import Derived.Test.YtbapbpnchdpbhaaGreatKFnWovenW1
set_option linter.unusedVariables false
set_option linter.unusedSimpArgs false
set_option maxHeartbeats 8000000
set_option maxRecDepth 100000
namespace Go.TV.KFnWoven
attribute [local irreducible] wpV opsV Does yZ yS RetL quV seqV Cy lpP cutP cutQ
open Go.Proofs.Tryz Go.TV.F
instance W_impl_SumMore:∀ sum text,Wlk X (zV0 sum text) 210 [] [.one (.sc (.int .u32 sum)),.one (.sc (.string text))] (fun r'=>[.one (.sc (.int .u32 r'))]) (fun r'=>[]):=fun sum text=>by
 refine ws f210 31 [.tmp 4] (h2 t3 (h2 t5 (h2 t9 t59))) ?_
 intro r'; unfold zV0
 refine go ?_
 refine jn (fun e'=>∃ sum_1,qE2 sum_1=some r'∧e'=⟨31,2,2,[(0,.pl (.one (.v (.sc (.int .u32 sum_1)))))],[]⟩) ?_ ?_
 ·refine go ?_
  refine lp (fun s' e'=>∃ sum_2 i,s'=(sum_2,i)∧e'=⟨31,2,2,[(0,.pl (.one (.v (.sc (.int .u32 sum_2))))),(1,.pl (.one (.v (.sc (.string text))))),(5,.pl (.one (.v (.sc (.int .i64 i)))))],[]⟩) [0,1,5] [] 2 ⟨_,_,rfl,rfl⟩ ?_
  rintro s' _ ⟨sum_2,i,rfl,rfl⟩ y1'
  change Tl _ (zL2 text sum_2 i) _ _; unfold zL2
  refine sq ?_
  refine go ?_
  refine sp ?_ ?_
  ·refine go ?_
   refine jn (fun e'=>∃ sum_3,zT6 i sum_3=some y1'∧e'=⟨31,2,2,[(0,.pl (.one (.v (.sc (.int .u32 sum_3))))),(1,.pl (.one (.v (.sc (.string text))))),(5,.pl (.one (.v (.sc (.int .i64 i)))))],[]⟩) ?_ ?_
   ·refine go ?_; intro x16 v'
    refine go ?_
    refine lp (fun s' e'=>∃ sum_4 x19,s'=(sum_4,x19)∧e'=⟨31,2,2,[(0,.pl (.one (.v (.sc (.int .u32 sum_4))))),(1,.pl (.one (.v (.sc (.string text))))),(5,.pl (.one (.v (.sc (.int .i64 i))))),(19,.pl (.one (.v (.sc (.int .i64 x19)))))],[]⟩) [0,1,5,19] [] 2 ⟨_,_,rfl,rfl⟩ ?_
    rintro s' _ ⟨sum_4,x19,rfl,rfl⟩ y2'
    change Tl _ (yQ sum_4 x19) _ _; unfold yQ
    refine go ?_
    refine sq ?_
    refine go ?_
    refine sp ?_ ?_
    ·refine go ?_
     refine sq ?_
     refine go ?_
     refine sp ?_ ?_
     ·refine go ?_
      exact bk [0,1,5,19] [] 2 ⟨_,_,rfl,rfl⟩
     ·refine go ?_
      exact bk [0,1,5,19] [] 2 ⟨_,_,rfl,rfl⟩
    ·refine go ?_
     exact je [0,1,5] [] 2 fun h=>⟨_,h,rfl⟩
   ·rintro e' ⟨sum_3,h,rfl⟩; refine tl h ?_; unfold zT6
    refine go ?_
    exact bk [0,1,5] [] 2 ⟨_,_,rfl,rfl⟩
  ·refine go ?_
   exact je [0] [] 2 fun h=>⟨_,h,rfl⟩
 ·rintro e' ⟨sum_1,h,rfl⟩; refine tl h ?_; unfold qE2
  exact gz
instance W_impl_SumOf:∀ text,Wlk X (zP5 text) 121 [] [.one (.sc (.string text))] (fun r'=>[.one (.sc (.int .u32 r'))]) (fun r'=>[]):=fun text=>by
 refine ws f121 5 [.tmp 2] trivial ?_
 intro r'; unfold zP5
 refine go ?_; intro x4
 exact gz
instance W_impl_sumText:∀ text,Wlk X (uX text) 112 [] [.one (.sc (.string text))] (fun r'=>[.one (.sc (.string r'))]) (fun r'=>[]):=fun text=>by
 refine ws f112 19 [.tmp 2] (h2 t5 (h2 t9 (h2 t22 t59))) ?_
 intro r'; unfold uX
 refine go ?_; intro x5
 refine fk (show bytesOf [[V.sc (.int .u8 (wk .u8 (vO .u32 x5 24)))],[V.sc (.int .u8 (wk .u8 (vO .u32 x5 16)))],[V.sc (.int .u8 (wk .u8 (vO .u32 x5 8)))],[V.sc (.int .u8 (wk .u8 x5))]]=some [(wk .u8 (vO .u32 x5 24)),(wk .u8 (vO .u32 x5 16)),(wk .u8 (vO .u32 x5 8)),(wk .u8 x5)] from qJ [(wk .u8 (vO .u32 x5 24)),(wk .u8 (vO .u32 x5 16)),(wk .u8 (vO .u32 x5 8)),(wk .u8 x5)]) ?_
 exact gz
instance W_impl_shortText:∀ s,Wlk X (zN8 s) 197 [] [.one (.sc (.string s))] (fun r'=>[.one (.sc (.string r'))]) (fun r'=>[]):=fun s=>by
 refine ws f197 8 [.tmp 2] t9 ?_
 intro r'; unfold zN8
 refine go ?_; intro x5
 refine go ?_; intro t v'
 exact gz
instance W_impl_recText:∀ r,Wlk X (zU8 r) 114 [] [.agg [.sc (.int .i64 r.Kind),.sc (.int .i64 r.Version),.sc (.string r.Line)]] (fun r'=>[.one (.sc (.string r'))]) (fun r'=>[]):=fun r=>by
 refine ws f114 22 [.tmp 2] (h2 t3 (h2 t5 (h2 t9 (h2 t22 t114)))) ?_
 intro r'; unfold zU8
 refine go ?_
 refine fk (show bytesOf [[V.sc (.int .u8 (wk .u8 r.Kind))]]=some [(wk .u8 r.Kind)] from qJ [(wk .u8 r.Kind)]) ?_
 refine go ?_
 refine sq ?_
 refine go ?_
 refine sp ?_ ?_
 ·refine go ?_; intro x15
  refine go ?_; intro t v'
  exact gz
 ·refine go ?_; intro x20
  refine go ?_; intro t_1 v'
  exact gz
instance W_impl_Sealed:∀ text,Wlk X (zX8 text) 91 [] [.one (.sc (.string text))] (fun r'=>[.one (.sc (.string r'.1)),.one (.sc (.bool r'.2))]) (fun r'=>[]):=fun text=>by
 refine ws f91 11 [.tmp 2,.tmp 3] (h2 t3 t9) ?_
 intro r'; unfold zX8
 refine go ?_
 refine sq ?_
 refine go ?_
 refine sp ?_ ?_
 ·exact gz
 ·refine go ?_; intro x9
  refine go ?_; intro t v'
  exact gz
instance W_impl_WeaveText:∀ w,Wlk X (uL w) 30 [] [.agg [.list false 1 (List.map (rL false 1 (rK .i64)) w.Parents),.list false 4 (List.map (zA false) w.Bodies)]] (fun r'=>[.one (.sc (.string r'.1)),.one (.sc (.bool r'.2))]) (fun r'=>[]):=fun w=>by
 refine ws f30 59 [.tmp 2,.tmp 3] (h2 t3 (h2 t9 (h2 t24 (h2 t27 (h2 t30 (h2 t39 (h2 t114 (h2 t139 (h2 jF (h2 zL (h2 zH4 (h2 qM R_s)))))))))))) ?_
 intro r'; unfold uL
 refine go ?_; intro x13
 refine go ?_
 refine sq ?_
 refine go ?_
 refine sp ?_ ?_
 ·exact gz
 ·refine go ?_
  refine lf ?_ (fun a g=>opsV_bldN a 5 g)
  refine go ?_; intro x21
  refine go ?_; intro t v'
  refine go ?_; intro x23
  refine go ?_
  refine jn (fun e'=>∃ b,zL9 x13 b=some r'∧e'=⟨59,2,4,[(4,.pl (.one (.ref 2 []))),(6,.pl (.one (.ref 3 [])))],[(2,.list true 3 (List.map (zG true) x13.1)),(3,.bld 139 5 b)]⟩) ?_ ?_
  ·refine go ?_
   refine lp (fun s' e'=>∃ x27 b_3,s'=(x27,b_3)∧e'=⟨59,2,5,[(1,.pl (.one (.ref 2 []))),(4,.pl (.one (.ref 3 []))),(6,.pl (.one (.ref 4 []))),(25,.pl (.one (.v (.list false 1 (List.map (rL false 1 (rK .i64)) w.Parents))))),(26,.pl (.one (.v (.sc (.int .i64 (w.Parents.length:Int)))))),(27,.pl (.one (.v (.sc (.int .i64 x27)))))],[(2,.box true [.list false 1 (List.map (rL false 1 (rK .i64)) w.Parents),.list false 4 (List.map (zA false) w.Bodies)]),(3,.list true 3 (List.map (zG true) x13.1)),(4,.bld 139 5 b_3)]⟩) [1,4,6,25,26,27] [(2,2),(3,3),(5,4)] 5 ⟨_,_,rfl,rfl⟩ ?_
   rintro s' _ ⟨x27,b_3,rfl,rfl⟩ y1'
   change Tl _ (xY w x27 b_3) _ _; unfold xY
   refine go ?_
   refine sq ?_
   refine go ?_
   refine sp ?_ ?_
   ·refine go ?_
    refine sq ?_
    refine go ?_; intro x_1 v'
    refine go ?_; intro x33
    refine go ?_; intro x35
    refine go ?_; intro x36
    refine go ?_; intro x37
    refine go ?_; intro t_1 v'
    refine go ?_; intro x39
    refine go ?_
    exact bk [1,4,6,25,26,27] [(2,2),(3,3),(4,4)] 5 ⟨_,_,rfl,rfl⟩
   ·refine go ?_
    exact je [4,6] [(3,2),(4,3)] 4 fun h=>⟨_,h,rfl⟩
  ·rintro e' ⟨b,h,rfl⟩; refine tl h ?_; unfold zL9
   refine go ?_; intro x43
   refine go ?_; intro x44
   refine go ?_
   refine jn (fun e'=>∃ b_1,zF5 b_1=some r'∧e'=⟨59,2,3,[(6,.pl (.one (.ref 2 [])))],[(2,.bld 139 5 b_1)]⟩) ?_ ?_
   ·refine go ?_
    refine lp (fun s' e'=>∃ x47 b_2,s'=(x47,b_2)∧e'=⟨59,2,4,[(6,.pl (.one (.ref 2 []))),(45,.pl (.one (.ref 3 []))),(46,.pl (.one (.v (.sc (.int .i64 (x13.1.length:Int)))))),(47,.pl (.one (.v (.sc (.int .i64 x47)))))],[(2,.bld 139 5 b_2),(3,.list true 3 (List.map (zG true) x13.1))]⟩) [6,45,46,47] [(3,2),(2,3)] 4 ⟨_,_,rfl,rfl⟩ ?_
    rintro s' _ ⟨x47,b_2,rfl,rfl⟩ y1'
    change Tl _ (wE x13 x47 b_2) _ _; unfold wE
    refine go ?_
    refine sq ?_
    refine go ?_
    refine sp ?_ ?_
    ·refine go ?_
     refine sq ?_
     refine go ?_; intro x v'
     refine go ?_
     refine l1 ?_
     refine go ?_; intro x52
     refine go ?_; intro x53
     refine go ?_
     exact bk [6,45,46,47] [(2,2),(3,3)] 4 ⟨_,_,rfl,rfl⟩
    ·refine go ?_
     exact je [6] [(2,2)] 3 fun h=>⟨_,h,rfl⟩
   ·rintro e' ⟨b_1,h,rfl⟩; refine tl h ?_; unfold zF5
    refine go ?_; intro x55
    refine go ?_; intro x56
    exact gz
instance W_impl_Unsealed:∀ text,Wlk X (zI6 text) 98 [] [.one (.sc (.string text))] (fun r'=>[.one (.sc (.string r'.1)),.one (.sc (.bool r'.2))]) (fun r'=>[]):=fun text=>by
 refine ws f98 27 [.tmp 2,.tmp 3] (h2 t3 t9) ?_
 intro r'; unfold zI6
 refine go ?_
 refine sq ?_
 refine go ?_
 refine rq ?_
 refine go ?_
 refine qc 3 (fun b e'=>e'=⟨27,1,1,[(0,.pl (.one (.v (.sc (.string text))))),(4,.pl (.one (.v (.sc (.int .i64 (wk .i64 ((text.size:Int) - 4))))))),(13,.pl (.one (.v (.sc (.bool b)))))],[]⟩) ?_ ?_
 ·intro p
  refine zD9 ?_ ?_
  ·refine go ?_
   exact ge [0,4,13] [] 1 rfl
  ·refine go ?_
   exact ge [0,4,13] [] 1 rfl
 ·rintro b _ rfl
  refine go ?_
  refine qc 9 (fun b_1 e'=>e'=⟨27,1,1,[(0,.pl (.one (.v (.sc (.string text))))),(4,.pl (.one (.v (.sc (.int .i64 (wk .i64 ((text.size:Int) - 4))))))),(23,.pl (.one (.v (.sc (.bool b_1)))))],[]⟩) ?_ ?_
  ·intro p
   refine zD9 ?_ ?_
   ·refine go ?_
    exact ge [0,4,23] [] 1 rfl
   ·refine go ?_; intro x17 v'
    refine go ?_; intro x18
    refine go ?_; intro x21 v'
    refine go ?_
    exact ge [0,4,23] [] 1 rfl
  ·rintro b_1 _ rfl
   refine go ?_
   refine sp ?_ ?_
   ·exact gz
   ·refine go ?_; intro x26 v'
    refine go ?_
    refine l1 ?_
    exact gz
instance W_impl_scanner_take:∀ s n,Wlk X (xA s n) 115 [0] [.one (.box true [.sc (.string s.text),.sc (.int .i64 s.at_),.sc (.bool s.bad)]),.one (.sc (.int .i64 n))] (fun r'=>[.one (.sc (.string r'.1))]) (fun r'=>[(0,.box true [.sc (.string r'.2.text),.sc (.int .i64 r'.2.at_),.sc (.bool r'.2.bad)])]):=fun s n=>by
 refine ws f115 49 [.tmp 4] (h2 t3 (h2 t4 (h2 t9 t153))) ?_
 intro r'; unfold xA
 refine go ?_
 refine sq ?_
 refine go ?_
 refine rq ?_
 refine go ?_
 refine qc 13 (fun b e'=>e'=⟨49,2,2,[(0,.pl (.one (.ref 0 []))),(1,.pl (.one (.v (.sc (.int .i64 n))))),(22,.pl (.one (.v (.sc (.bool b)))))],[(0,.box true [.sc (.string s.text),.sc (.int .i64 s.at_),.sc (.bool s.bad)])]⟩) ?_ ?_
 ·intro p
  refine zD9 ?_ ?_
  ·refine go ?_
   exact ge [0,1,22] [(0,0)] 2 rfl
  ·refine go ?_
   exact ge [0,1,22] [(0,0)] 2 rfl
 ·rintro b _ rfl
  refine go ?_
  refine sp ?_ ?_
  ·exact gz
  ·refine go ?_
   refine rq ?_
   refine go ?_; intro x48 v'
   exact gz
instance W_impl_scanner_mark:∀ s mark,Wlk X (zF3 s mark) 99 [0] [.one (.box true [.sc (.string s.text),.sc (.int .i64 s.at_),.sc (.bool s.bad)]),.one (.sc (.string mark))] (fun r'=>[]) (fun r'=>[(0,.box true [.sc (.string r'.text),.sc (.int .i64 r'.at_),.sc (.bool r'.bad)])]):=fun s mark=>by
 refine ws f99 13 [] (h2 t4 (h2 t9 t153)) ?_
 intro r'; unfold zF3
 refine go ?_; intro x7
 refine go ?_
 refine sp ?_ ?_
 ·exact gz
 ·exact gz
instance W_impl_ReadVar:∀ text at_,Wlk X (zV1 text at_) 265 [] [.one (.sc (.string text)),.one (.sc (.int .i64 at_))] (fun r'=>[.one (.sc (.int .i64 r'.1)),.one (.sc (.int .i64 r'.2.1)),.one (.sc (.bool r'.2.2))]) (fun r'=>[]):=fun text at_=>by
 refine ws f265 62 [.tmp 4,.tmp 5,.tmp 6] (h2 t3 (h2 t5 t9)) ?_
 intro r'; unfold zV1
 refine go ?_
 refine sq ?_
 refine go ?_
 refine gc 5 (fun b e'=>e'=⟨62,2,2,[(0,.pl (.one (.v (.sc (.string text))))),(1,.pl (.one (.v (.sc (.int .i64 at_))))),(18,.pl (.one (.v (.sc (.bool b)))))],[]⟩) ?_ ?_
 ·intro p
  refine xG ?_ ?_
  ·refine go ?_
   exact ge [0,1,18] [] 2 rfl
  ·refine go ?_
   exact ge [0,1,18] [] 2 rfl
 ·rintro b _ rfl
  refine go ?_
  refine sp ?_ ?_
  ·exact gz
  ·refine go ?_
   refine jn (fun e'=>qC8=some r'∧e'=⟨62,2,2,[],[]⟩) ?_ ?_
   ·refine go ?_
    refine lp (fun s' e'=>∃ n unit i,s'=(n,unit,i)∧e'=⟨62,2,2,[(0,.pl (.one (.v (.sc (.string text))))),(1,.pl (.one (.v (.sc (.int .i64 at_))))),(7,.pl (.one (.v (.sc (.int .i64 n))))),(8,.pl (.one (.v (.sc (.int .i64 unit))))),(9,.pl (.one (.v (.sc (.int .i64 i)))))],[]⟩) [0,1,7,8,9] [] 2 ⟨_,_,_,rfl,rfl⟩ ?_
    rintro s' _ ⟨n,unit,i,rfl,rfl⟩ y1'
    change Tl _ (yN text at_ n unit i) _ _; unfold yN
    refine sq ?_
    refine go ?_
    refine gc 7 (fun b_1 e'=>e'=⟨62,2,2,[(0,.pl (.one (.v (.sc (.string text))))),(1,.pl (.one (.v (.sc (.int .i64 at_))))),(7,.pl (.one (.v (.sc (.int .i64 n))))),(8,.pl (.one (.v (.sc (.int .i64 unit))))),(9,.pl (.one (.v (.sc (.int .i64 i))))),(28,.pl (.one (.v (.sc (.bool b_1)))))],[]⟩) ?_ ?_
    ·intro p
     refine kT ?_ ?_
     ·refine go ?_
      exact ge [0,1,7,8,9,28] [] 2 rfl
     ·refine go ?_
      exact ge [0,1,7,8,9,28] [] 2 rfl
    ·rintro b_1 _ rfl
     refine go ?_
     refine sp ?_ ?_
     ·refine go ?_
      refine sq ?_
      refine go ?_; intro x35 v'
      refine go ?_
      refine sq ?_
      refine go ?_
      refine sp ?_ ?_
      ·refine go ?_
       exact bk [0,1,7,8,9] [] 2 ⟨_,_,_,rfl,rfl⟩
      ·refine go ?_
       refine sq ?_
       refine go ?_
       refine gc 3 (fun b_2 e'=>e'=⟨62,2,2,[(1,.pl (.one (.v (.sc (.int .i64 at_))))),(7,.pl (.one (.v (.sc (.int .i64 (wk .i64 (n+(wk .i64 (((wk .i64 x35).tmod 128) * unit))))))))),(9,.pl (.one (.v (.sc (.int .i64 i))))),(52,.pl (.one (.v (.sc (.bool b_2)))))],[]⟩) ?_ ?_
       ·intro p
        refine kT ?_ ?_
        ·refine go ?_
         exact ge [1,7,9,52] [] 2 rfl
        ·refine go ?_
         exact ge [1,7,9,52] [] 2 rfl
       ·rintro b_2 _ rfl
        refine go ?_
        refine gc 3 (fun b_3 e'=>e'=⟨62,2,2,[(1,.pl (.one (.v (.sc (.int .i64 at_))))),(7,.pl (.one (.v (.sc (.int .i64 (wk .i64 (n+(wk .i64 (((wk .i64 x35).tmod 128) * unit))))))))),(9,.pl (.one (.v (.sc (.int .i64 i))))),(56,.pl (.one (.v (.sc (.bool b_3)))))],[]⟩) ?_ ?_
        ·intro p
         refine xG ?_ ?_
         ·refine go ?_
          exact ge [1,7,9,56] [] 2 rfl
         ·refine go ?_
          exact ge [1,7,9,56] [] 2 rfl
        ·rintro b_3 _ rfl
         refine go ?_
         refine sp ?_ ?_
         ·exact gz
         ·exact gz
     ·refine go ?_
      exact je [] [] 2 fun h=>⟨h,rfl⟩
   ·rintro e' ⟨h,rfl⟩; refine tl h ?_; unfold qC8
    exact gz
instance W_impl_scanner_number:∀ s,Wlk X (jY s) 199 [0] [.one (.box true [.sc (.string s.text),.sc (.int .i64 s.at_),.sc (.bool s.bad)])] (fun r'=>[.one (.sc (.int .i64 r'.1))]) (fun r'=>[(0,.box true [.sc (.string r'.2.text),.sc (.int .i64 r'.2.at_),.sc (.bool r'.2.bad)])]):=fun s=>by
 refine ws f199 35 [.tmp 2] (h2 t3 (h2 t4 (h2 t9 t153))) ?_
 intro r'; unfold jY
 refine go ?_
 refine rq ?_
 refine go ?_
 refine qT (fun x=>[(.int .i64 x.1),(.int .i64 x.2.1),(.bool x.2.2)]) ?_; intro x15
 refine go ?_
 refine sq ?_
 refine go ?_
 refine gc 3 (fun b e'=>e'=⟨35,1,1,[(0,.pl (.one (.ref 0 []))),(3,.pl (.one (.v (.sc (.int .i64 x15.1))))),(4,.pl (.one (.v (.sc (.int .i64 x15.2.1))))),(26,.pl (.one (.v (.sc (.bool b)))))],[(0,.box true [.sc (.string s.text),.sc (.int .i64 s.at_),.sc (.bool s.bad)])]⟩) ?_ ?_
 ·intro p
  refine xG ?_ ?_
  ·refine go ?_
   exact ge [0,3,4,26] [(0,0)] 1 rfl
  ·refine go ?_
   exact ge [0,3,4,26] [(0,0)] 1 rfl
 ·rintro b _ rfl
  refine go ?_
  refine sp ?_ ?_
  ·exact gz
  ·exact gz
instance W_impl_scanner_count:∀ s most,Wlk X (wU s most) 100 [0] [.one (.box true [.sc (.string s.text),.sc (.int .i64 s.at_),.sc (.bool s.bad)]),.one (.sc (.int .i64 most))] (fun r'=>[.one (.sc (.int .i64 r'.1))]) (fun r'=>[(0,.box true [.sc (.string r'.2.text),.sc (.int .i64 r'.2.at_),.sc (.bool r'.2.bad)])]):=fun s most=>by
 refine ws f100 15 [.tmp 4] (h2 t3 (h2 t4 t153)) ?_
 intro r'; unfold wU
 refine go ?_; intro x7
 refine go ?_
 refine sq ?_
 refine go ?_
 refine sp ?_ ?_
 ·exact gz
 ·exact gz
instance W_impl_scanner_numbers:∀ s most,Wlk X (kZ s most) 101 [0] [.one (.box true [.sc (.string s.text),.sc (.int .i64 s.at_),.sc (.bool s.bad)]),.one (.sc (.int .i64 most))] (fun r'=>[.one (.list true 1 (List.map (rK .i64) r'.1))]) (fun r'=>[(0,.box true [.sc (.string r'.2.text),.sc (.int .i64 r'.2.at_),.sc (.bool r'.2.bad)])]):=fun s most=>by
 refine ws f101 20 [.tmp 4] (h2 t3 (h2 t39 qM)) ?_
 intro r'; unfold kZ
 refine go ?_
 refine l1 ?_
 refine go ?_
 refine l1 ?_
 refine go ?_
 refine jn (fun e'=>∃ s_1 s_2 s_3 out_,zB1 s_1 s_2 s_3 out_=some r'∧e'=⟨20,2,3,[(5,.pl (.one (.ref 2 [])))],[(0,.box true [.sc (.string s_1),.sc (.int .i64 s_2),.sc (.bool s_3)]),(2,.list true 1 (List.map (rK .i64) out_))]⟩) ?_ ?_
 ·refine go ?_; intro x9
  refine go ?_
  refine lp (fun s' e'=>∃ x10 s_4 s_5 s_6 out__1,s'=(x10,s_4,s_5,s_6,out__1)∧e'=⟨20,2,3,[(0,.pl (.one (.ref 0 []))),(5,.pl (.one (.ref 2 []))),(9,.pl (.one (.v (.sc (.int .i64 x9.1))))),(10,.pl (.one (.v (.sc (.int .i64 x10)))))],[(0,.box true [.sc (.string s_4),.sc (.int .i64 s_5),.sc (.bool s_6)]),(2,.list true 1 (List.map (rK .i64) out__1))]⟩) [0,5,9,10] [(0,0),(3,2)] 3 ⟨_,_,_,_,_,rfl,rfl⟩ ?_
  rintro s' _ ⟨x10,s_4,s_5,s_6,out__1,rfl,rfl⟩ y1'
  change Tl _ (kN x9 x10 s_4 s_5 s_6 out__1) _ _; unfold kN
  refine go ?_
  refine sq ?_
  refine go ?_
  refine sp ?_ ?_
  ·refine go ?_
   refine sq ?_
   refine go ?_; intro x13
   refine go ?_; intro l v'
   refine go ?_
   exact bk [0,5,9,10] [(0,0),(2,2)] 3 ⟨_,_,_,_,_,rfl,rfl⟩
  ·refine go ?_
   exact je [5] [(0,0),(2,2)] 3 fun h=>⟨_,_,_,_,h,rfl⟩
 ·rintro e' ⟨s_1,s_2,s_3,out_,h,rfl⟩; refine tl h ?_; unfold zB1
  exact gz
instance W_impl_scanner_octet:∀ s,Wlk X (zD6 s) 200 [0] [.one (.box true [.sc (.string s.text),.sc (.int .i64 s.at_),.sc (.bool s.bad)])] (fun r'=>[.one (.sc (.int .i64 r'.1))]) (fun r'=>[(0,.box true [.sc (.string r'.2.text),.sc (.int .i64 r'.2.at_),.sc (.bool r'.2.bad)])]):=fun s=>by
 refine ws f200 11 [.tmp 2] (h2 t3 (h2 t5 t9)) ?_
 intro r'; unfold zD6
 refine go ?_; intro x5
 refine go ?_
 refine sq ?_
 refine go ?_
 refine sp ?_ ?_
 ·exact gz
 ·refine go ?_; intro x9 v'
  exact gz
instance W_impl_scanner_short:∀ s,Wlk X (zD8 s) 102 [0] [.one (.box true [.sc (.string s.text),.sc (.int .i64 s.at_),.sc (.bool s.bad)])] (fun r'=>[.one (.sc (.string r'.1))]) (fun r'=>[(0,.box true [.sc (.string r'.2.text),.sc (.int .i64 r'.2.at_),.sc (.bool r'.2.bad)])]):=fun s=>by
 refine ws f102 14 [.tmp 2] (h2 t3 (h2 t4 t153)) ?_
 intro r'; unfold zD8
 refine go ?_; intro x5
 refine go ?_
 refine jn (fun e'=>∃ s_1,uM x5 s_1=some r'∧e'=⟨14,1,1,[(0,.pl (.one (.ref 0 []))),(3,.pl (.one (.v (.sc (.int .i64 x5.1)))))],[(0,.box true [.sc (.string x5.2.text),.sc (.int .i64 x5.2.at_),.sc (.bool s_1)])]⟩) ?_ ?_
 ·refine go ?_
  refine sp ?_ ?_
  ·refine go ?_
   exact je [0,3] [(0,0)] 1 fun h=>⟨_,h,rfl⟩
  ·refine go ?_
   exact je [0,3] [(0,0)] 1 fun h=>⟨_,h,rfl⟩
 ·rintro e' ⟨s_1,h,rfl⟩; refine tl h ?_; unfold uM
  refine go ?_; intro x13
  exact gz
instance W_impl_scanner_rec:∀ s,Wlk X (zC7 s) 116 [0] [.one (.box true [.sc (.string s.text),.sc (.int .i64 s.at_),.sc (.bool s.bad)])] (fun r'=>[.agg [.sc (.int .i64 r'.1.Kind),.sc (.int .i64 r'.1.Version),.sc (.string r'.1.Line)]]) (fun r'=>[(0,.box true [.sc (.string r'.2.text),.sc (.int .i64 r'.2.at_),.sc (.bool r'.2.bad)])]):=fun s=>by
 refine ws f116 26 [.cell 2 114] (h2 t3 (h2 t4 (h2 t9 (h2 t114 t153)))) ?_
 intro r'; unfold zC7
 refine go ?_
 refine l1 ?_
 refine go ?_; intro x5
 refine go ?_
 refine l1 ?_
 refine go ?_
 refine sq ?_
 refine go ?_; intro x13
 refine go ?_
 refine sp ?_ ?_
 ·exact gz
 ·refine go ?_
  refine sp ?_ ?_
  ·refine go ?_; intro x23
   exact gz
  ·refine go ?_; intro x8
   exact gz
instance W_impl_scanner_done:∀ s,Wlk X (zM2 s) 104 [] [.one (.box false [.sc (.string s.text),.sc (.int .i64 s.at_),.sc (.bool s.bad)])] (fun r'=>[.one (.sc (.bool r'))]) (fun r'=>[]):=fun s=>by
 refine ws f104 20 [.tmp 2] (h2 t3 (h2 t4 (h2 t9 t153))) ?_
 intro r'; unfold zM2
 refine go ?_
 refine rq ?_
 refine go ?_
 refine qc 11 (fun b e'=>e'=⟨20,1,1,[(19,.pl (.one (.v (.sc (.bool b)))))],[]⟩) ?_ ?_
 ·intro p
  refine quV_spL ?_ ?_
  ·refine go ?_
   exact ge [19] [] 1 rfl
  ·refine go ?_
   exact ge [19] [] 1 rfl
 ·rintro b _ rfl
  exact gz
theorem qN0 (s:List Int) (r':List Int) (h0':zA2 s=some r'):Fn X 153 [.one (.list false 1 (List.map (rK .i64) s))] [.one (.list true 1 (List.map (rK .i64) r'))] []:=by
 have H':=And.intro t3 (And.intro t39 (qM))
 unfold zA2 at h0'
 refine Fn.start (fn:=f153) (N:=8) (res:=[.tmp 2]) rfl rfl rfl rfl rfl (by simp) ?_
 refine enterG H' ?_
 refine zZ3 ?_
 refine qD9 ?_
 refine ops H' ?_
 refine opsN ?_
 refine zZ3 ?_
 refine zZ3 ?_
 refine qD9 ?_
 refine ops H' ?_
 refine opsV_nilEq H' (fun b' hb'=>?_)
 refine opsN ?_
 refine wpV_split (fun hc'=>?_) (fun hc'=>?_)
 ·have hs':s=[]:=by simpa using hb' hc'
  subst hs'
  obtain rfl:r'=[]:=by simpa [qF] using h0'.symm
  refine zZ3 ?_
  refine qD9 ?_
  refine ops H' ?_
  refine opsN ?_
  refine retN ?_
  exact outG H' rfl rfl
 ·refine skipN ?_
  refine zZ3 ?_
  refine qD9 ?_
  have H':=And.intro (appz_f (rK .i64) h0') H'
  refine ops H' ?_
  refine opsN ?_
  refine retN ?_
  exact outG H' rfl rfl
instance:∀ s,Wlk X (zA2 s) 153 [] [.one (.list false 1 (List.map (rK .i64) s))] (fun r'=>[.one (.list true 1 (List.map (rK .i64) r'))]) (fun r'=>[]):=fun s=>⟨fun r' h=>qN0 s r' h⟩
instance W_impl_copyGraph:∀ parents,Wlk X (zM7 parents) 71 [] [.one (.list false 1 (List.map (rL false 1 (rK .i64)) parents))] (fun r'=>[.one (.list true 1 (List.map (rL true 1 (rK .i64)) r'))]) (fun r'=>[]):=fun parents=>by
 refine ws f71 19 [.tmp 2] (h2 t3 (h2 t24 (h2 t39 (h2 jF qM)))) ?_
 intro r'; unfold zM7
 refine go ?_
 refine l1 ?_
 refine go ?_
 refine l1 ?_
 refine go ?_
 refine jn (fun e'=>∃ out_,zM4 out_=some r'∧e'=⟨19,1,2,[(3,.pl (.one (.ref 1 [])))],[(1,.list true 1 (List.map (rL true 1 (rK .i64)) out_))]⟩) ?_ ?_
 ·refine go ?_
  refine lp (fun s' e'=>∃ x8 out__1,s'=(x8,out__1)∧e'=⟨19,1,2,[(3,.pl (.one (.ref 1 []))),(6,.pl (.one (.v (.list false 1 (List.map (rL false 1 (rK .i64)) parents))))),(7,.pl (.one (.v (.sc (.int .i64 (parents.length:Int)))))),(8,.pl (.one (.v (.sc (.int .i64 x8)))))],[(1,.list true 1 (List.map (rL true 1 (rK .i64)) out__1))]⟩) [3,6,7,8] [(2,1)] 2 ⟨_,_,rfl,rfl⟩ ?_
  rintro s' _ ⟨x8,out__1,rfl,rfl⟩ y1'
  change Tl _ (zA4 parents x8 out__1) _ _; unfold zA4
  refine go ?_
  refine sq ?_
  refine go ?_
  refine sp ?_ ?_
  ·refine go ?_
   refine sq ?_
   refine go ?_; intro x v'
   refine go ?_; intro x14
   refine go ?_; intro l v'
   refine go ?_
   exact bk [3,6,7,8] [(1,1)] 2 ⟨_,_,rfl,rfl⟩
  ·refine go ?_
   exact je [3] [(1,1)] 2 fun h=>⟨_,h,rfl⟩
 ·rintro e' ⟨out_,h,rfl⟩; refine tl h ?_; unfold zM4
  exact gz
theorem qK8 (s:List Int) (i:Int) (j:Int) (r':List Int) (h0':wP s i j=some r'):Fn X 184 [.one (.list true 1 (List.map (rK .i64) s)),.one (.sc (.int .i64 i)),.one (.sc (.int .i64 j))] [.one (.list true 1 (List.map (rK .i64) r'))] []:=by
 unfold wP at h0'
 split at h0'
 case isFalse=>cases h0'
 rename_i hs
 unfold del1 at h0'
 split at h0'
 case isFalse=>cases h0'
 rename_i hd
 obtain rfl:=zso h0'
 obtain ⟨i,rfl⟩:=Int.eq_ofNat_of_zero_le hd.1
 obtain ⟨j,rfl⟩:=Int.eq_ofNat_of_zero_le (Int.le_trans hd.1 hd.2.1)
 have:=del_fn (X:=X) (f:=184) (k:=1) (rows:=List.map ((rK .i64)) s) (i:=i) (j:=j) delRaw184 (by decide) (by omega) (by rw [List.length_map]; omega) (by rw [List.length_map]; exact hs) (by unfold qQ; rw [List.all_map]; exact List.all_eq_true.2 (fun x _=>rfl))
 rw [← List.map_take,← List.map_drop,← List.map_append] at this
 exact this
instance:∀ s i j,Wlk X (wP s i j) 184 [0] [.one (.list true 1 (List.map (rK .i64) s)),.one (.sc (.int .i64 i)),.one (.sc (.int .i64 j))] (fun r'=>[.one (.list true 1 (List.map (rK .i64) r'))]) (fun r'=>[]):=fun s i j=>⟨fun r' h=>qK8 s i j r' h⟩
instance W_impl_walker_mark:∀ o r,Wlk X (wW o r) 72 [0] [.one (.box true [.sc (.bool o.open_),.sc (.int .i64 o.ins),.list true 1 (List.map (rK .i64) o.dels)]),.agg [.sc (.int .i64 r.Kind),.sc (.int .i64 r.Version),.sc (.string r.Line)]] (fun r'=>[.one (.sc (.bool r'.1))]) (fun r'=>[(0,.box true [.sc (.bool r'.2.open_),.sc (.int .i64 r'.2.ins),.list true 1 (List.map (rK .i64) r'.2.dels)])]):=fun o r=>by
 refine ws f72 84 [.tmp 4] (h2 t3 (h2 t4 (h2 t39 (h2 t112 (h2 t114 qM))))) ?_
 intro r'; unfold wW
 refine go ?_
 refine rq ?_
 refine go ?_; intro x12
 refine go ?_
 refine sq ?_
 refine go ?_
 refine sp ?_ ?_
 ·refine sq ?_
  refine go ?_
  refine sp ?_ ?_
  ·exact gz
  ·refine go ?_
   refine rc [0,1,2,4,5,3,6,7,8,9] ?_
   exact gz
 ·refine go ?_
  refine sp ?_ ?_
  ·refine sq ?_
   refine go ?_
   refine rq ?_
   refine go ?_
   refine qc 8 (fun b e'=>e'=⟨84,4,4,[(0,.pl (.one (.ref 0 []))),(44,.pl (.one (.v (.sc (.bool b)))))],[(0,.box true [.sc (.bool o.open_),.sc (.int .i64 o.ins),.list true 1 (List.map (rK .i64) o.dels)])]⟩) ?_ ?_
   ·intro p
    refine zD9 ?_ ?_
    ·refine go ?_
     exact ge [0,44] [(0,0)] 4 rfl
    ·refine go ?_
     exact ge [0,44] [(0,0)] 4 rfl
   ·rintro b _ rfl
    refine go ?_
    refine sp ?_ ?_
    ·exact gz
    ·exact gz
  ·refine go ?_
   refine sp ?_ ?_
   ·refine sq ?_
    refine go ?_
    refine sp ?_ ?_
    ·exact gz
    ·refine go ?_
     refine rc [0,1,2,3,5,4,6,7,8,9,10,11] ?_
     refine go ?_; intro l v'
     exact gz
   ·refine go ?_
    refine sp ?_ ?_
    ·refine sq ?_
     refine go ?_
     refine sp ?_ ?_
     ·exact gz
     ·refine go ?_; intro x75
      exact gz
    ·refine go ?_
     refine sp ?_ ?_
     ·exact gz
     ·exact gz
instance W_slices_Values_int_int:∀ s,Wlk X (zN9 s) 75 [] [.one (.list false 1 (List.map (rK .i64) s))] (fun r'=>[.one (.fn 187 [.box false [.list false 1 (List.map (rK .i64) r')]])]) (fun _=>[]):=fun s=>⟨fun r' h=>by
 obtain rfl:=zso h
 exact values_fn sortRaw75⟩
instance W_slices_Sorted_int:∀ s,Wlk X (zF4 s) 74 [] [.one (.fn 187 [.box false [.list false 1 (List.map (rK .i64) s)]])] (fun r'=>[.one (.list true 1 (List.map (rK .i64) r'))]) (fun _=>[]):=fun s=>⟨fun r' h=>by
 unfold zF4 at h
 split at h
 case isFalse=>cases h
 rename_i hs
 obtain rfl:=zso h
 exact sorted_fn sortRaw75 hs⟩
instance W_slices_Equal_impl_Rec_impl_Rec:∀ s1 s2,Wlk X (xM s1 s2) 76 [] [.one (.list false 3 (List.map (zG true) s1)),.one (.list false 3 (List.map (zG true) s2))] (fun r'=>[.one (.sc (.bool r'))]) (fun r'=>[]):=fun s1 s2=>by
 refine ws f76 26 [.tmp 4] (h2 t3 (h2 t9 (h2 t30 (h2 t114 zH4)))) ?_
 intro r'; unfold xM
 refine go ?_
 refine sq ?_
 refine go ?_
 refine sp ?_ ?_
 ·exact gz
 ·refine go ?_
  refine jn (fun e'=>yX=some r'∧e'=⟨26,2,2,[],[]⟩) ?_ ?_
  ·refine go ?_
   refine lp (fun x13 e'=>e'=⟨26,2,2,[(0,.pl (.one (.v (.list false 3 (List.map (zG true) s1))))),(1,.pl (.one (.v (.list false 3 (List.map (zG true) s2))))),(12,.pl (.one (.v (.sc (.int .i64 (s1.length:Int)))))),(13,.pl (.one (.v (.sc (.int .i64 x13)))))],[]⟩) [0,1,12,13] [] 2 rfl ?_
   rintro x13 _ rfl y1'
   change Tl _ (qV s1 s2 x13) _ _; unfold qV
   refine go ?_
   refine sq ?_
   refine go ?_
   refine sp ?_ ?_
   ·refine go ?_
    refine sq ?_
    refine go ?_
    refine rq ?_
    refine go ?_; intro x v'
    refine go ?_; intro x_1 v'
    refine go ?_
    refine lf ?_ (fun a g=>quV_cmp a (by kernel_rfl) g)
    refine go ?_
    refine sp ?_ ?_
    ·exact gz
    ·refine go ?_
     exact bk [0,1,12,13] [] 2 rfl
   ·refine go ?_
    exact je [] [] 2 fun h=>⟨h,rfl⟩
  ·rintro e' ⟨h,rfl⟩; refine tl h ?_; unfold yX
   exact gz
instance W_impl_FromRecords:∀ parents list_,Wlk X (zB5 parents list_) 16 [] [.one (.list false 1 (List.map (rL false 1 (rK .i64)) parents)),.one (.list false 3 (List.map (zG true) list_))] (fun r'=>[.agg [.list true 1 (List.map (rL true 1 (rK .i64)) r'.1.Parents),.list true 4 (List.map (zA true) r'.1.Bodies)],.one (.sc (.bool r'.2))]) (fun r'=>[]):=fun parents list_=>by
 refine ws f16 86 [.cell 4 27,.tmp 5] (h2 t3 (h2 t4 (h2 t9 (h2 t24 (h2 t25 (h2 t27 (h2 t30 (h2 t39 (h2 t46 (h2 t112 (h2 t114 (h2 jF (h2 zL (h2 zH4 qM)))))))))))))) ?_
 intro r'; unfold zB5
 refine go ?_
 refine l1 ?_
 refine go ?_
 refine sq ?_
 refine go ?_
 refine gc 4 (fun b e'=>e'=⟨86,2,3,[(0,.pl (.one (.v (.list false 1 (List.map (rL false 1 (rK .i64)) parents))))),(1,.pl (.one (.v (.list false 3 (List.map (zG true) list_))))),(4,.pl (.one (.ref 2 []))),(18,.pl (.one (.v (.sc (.bool b)))))],[(2,.box true [.list true 1 (List.map (rL true 1 (rK .i64)) []),.list true 4 (List.map (zA true) [])])]⟩) ?_ ?_
 ·intro p
  refine xG ?_ ?_
  ·refine go ?_
   exact ge [0,1,4,18] [(2,2)] 3 rfl
  ·refine go ?_; intro x16
   refine go ?_
   exact ge [0,1,4,18] [(2,2)] 3 rfl
 ·rintro b _ rfl
  refine go ?_
  refine sp ?_ ?_
  ·exact gz
  ·refine go ?_; intro x21
   refine go ?_
   refine l1 ?_
   refine go ?_
   refine l1 ?_
   refine go ?_; intro x26 v'
   refine go ?_
   refine jn (fun e'=>∃ w,zB4 list_ x21 w=some r'∧e'=⟨86,2,4,[(1,.pl (.one (.v (.list false 3 (List.map (zG true) list_))))),(4,.pl (.one (.ref 2 []))),(6,.pl (.one (.ref 3 [])))],[(2,.box true [.list true 1 (List.map (rL true 1 (rK .i64)) []),.list true 4 (List.map (zA true) [])]),(3,.box true [.list true 1 (List.map (rL true 1 (rK .i64)) x21),.list true 4 (List.map (zA true) w)])]⟩) ?_ ?_
   ·refine go ?_
    refine lp (fun s' e'=>∃ x29 w_1 o o_1 o_2 born,s'=(x29,w_1,o,o_1,o_2,born)∧e'=⟨86,2,6,[(0,.pl (.one (.v (.list false 1 (List.map (rL false 1 (rK .i64)) parents))))),(1,.pl (.one (.v (.list false 3 (List.map (zG true) list_))))),(4,.pl (.one (.ref 2 []))),(6,.pl (.one (.ref 3 []))),(7,.pl (.one (.ref 4 []))),(8,.pl (.one (.ref 5 []))),(27,.pl (.one (.v (.list false 3 (List.map (zG true) list_))))),(28,.pl (.one (.v (.sc (.int .i64 (list_.length:Int)))))),(29,.pl (.one (.v (.sc (.int .i64 x29)))))],[(2,.box true [.list true 1 (List.map (rL true 1 (rK .i64)) []),.list true 4 (List.map (zA true) [])]),(3,.box true [.list true 1 (List.map (rL true 1 (rK .i64)) x21),.list true 4 (List.map (zA true) w_1)]),(4,.box true [.sc (.bool o),.sc (.int .i64 o_1),.list true 1 (List.map (rK .i64) o_2)]),(5,.list true 1 (List.map (rK .i64) born))]⟩) [0,1,4,6,7,8,27,28,29] [(2,2),(4,3),(5,4),(6,5)] 6 ⟨_,_,_,_,_,_,rfl,rfl⟩ ?_
    rintro s' _ ⟨x29,w_1,o,o_1,o_2,born,rfl,rfl⟩ y1'
    change Tl _ (wJ parents list_ x29 w_1 o o_1 o_2 born) _ _; unfold wJ
    refine go ?_
    refine sq ?_
    refine go ?_
    refine sp ?_ ?_
    ·refine go ?_
     refine sq ?_
     refine go ?_; intro x v'
     refine go ?_
     refine l1 ?_
     refine go ?_
     refine sq ?_
     refine go ?_; intro x34
     refine go ?_
     refine sp ?_ ?_
     ·exact gz
     ·refine go ?_
      refine sq ?_
      refine go ?_
      refine sp ?_ ?_
      ·refine go ?_
       exact bk [0,1,4,6,7,8,27,28,29] [(2,2),(3,3),(4,4),(5,5)] 6 ⟨_,_,_,_,_,_,rfl,rfl⟩
      ·refine go ?_
       refine sq ?_
       refine go ?_; intro x44
       refine go ?_
       refine sp ?_ ?_
       ·exact gz
       ·refine go ?_
        refine rO 4 [0,2,4,6,7,11,1,3,5,8,9,10,12,13,14,15,16,17,18,19] ?_
        refine go ?_; intro x_1 v'
        refine go ?_; intro x60
        refine go ?_; intro x61
        refine go ?_; intro l v'
        refine go ?_
        refine bO 4 [0,1,7,27,28,29] [4,6,8] ?_
        refine go ?_; intro x_2 v'
        refine go ?_
        exact bk [0,1,4,6,7,8,27,28,29] [(2,2),(3,3),(4,4),(5,5)] 6 ⟨_,_,_,_,_,_,rfl,rfl⟩
    ·refine go ?_
     exact je [1,4,6] [(2,2),(3,3)] 4 fun h=>⟨_,h,rfl⟩
   ·rintro e' ⟨w,h,rfl⟩; refine tl h ?_; unfold zB4
    refine sq ?_
    refine go ?_; intro x75
    refine go ?_
    refine gc 6 (fun b_1 e'=>e'=⟨86,2,4,[(4,.pl (.one (.ref 2 []))),(6,.pl (.one (.ref 3 []))),(83,.pl (.one (.v (.sc (.bool b_1)))))],[(2,.box true [.list true 1 (List.map (rL true 1 (rK .i64)) []),.list true 4 (List.map (zA true) [])]),(3,.box true [.list true 1 (List.map (rL true 1 (rK .i64)) x21),.list true 4 (List.map (zA true) w)])]⟩) ?_ ?_
    ·intro p
     refine xG ?_ ?_
     ·refine go ?_
      exact ge [4,6,83] [(2,2),(3,3)] 4 rfl
     ·refine go ?_; intro x79
      refine go ?_; intro x81
      refine go ?_
      exact ge [4,6,83] [(2,2),(3,3)] 4 rfl
    ·rintro b_1 _ rfl
     refine go ?_
     refine sp ?_ ?_
     ·exact gz
     ·exact gz
instance W_impl_ReadWeave:∀ text,Wlk X (uQ text) 31 [] [.one (.sc (.string text))] (fun r'=>[.agg [.list true 1 (List.map (rL true 1 (rK .i64)) r'.1.Parents),.list true 4 (List.map (zA true) r'.1.Bodies)],.one (.sc (.int .i64 r'.2))]) (fun r'=>[]):=fun text=>by
 refine ws f31 82 [.cell 2 27,.tmp 3] (h2 t3 (h2 t4 (h2 t9 (h2 t24 (h2 t25 (h2 t27 (h2 t30 (h2 t39 (h2 t114 (h2 t153 (h2 jF (h2 zL (h2 zH4 qM))))))))))))) ?_
 intro r'; unfold uQ
 refine go ?_
 refine l1 ?_
 refine go ?_
 refine sq ?_
 refine go ?_
 refine gc 4 (fun b e'=>e'=⟨82,1,2,[(0,.pl (.one (.v (.sc (.string text))))),(2,.pl (.one (.ref 1 []))),(21,.pl (.one (.v (.sc (.bool b)))))],[(1,.box true [.list true 1 (List.map (rL true 1 (rK .i64)) []),.list true 4 (List.map (zA true) [])])]⟩) ?_ ?_
 ·intro p
  refine xG ?_ ?_
  ·refine go ?_
   exact ge [0,2,21] [(1,1)] 2 rfl
  ·refine go ?_
   exact ge [0,2,21] [(1,1)] 2 rfl
 ·rintro b _ rfl
  refine go ?_
  refine sp ?_ ?_
  ·exact gz
  ·refine go ?_; intro x25
   refine go ?_
   refine sq ?_
   refine go ?_
   refine sp ?_ ?_
   ·exact gz
   ·refine go ?_
    refine l1 ?_
    refine go ?_; intro x33
    refine go ?_
    refine l1 ?_
    refine go ?_
    refine jn (fun e'=>∃ s s_1 s_2 parents,zM1 text s s_1 s_2 parents=some r'∧e'=⟨82,1,4,[(0,.pl (.one (.v (.sc (.string text))))),(2,.pl (.one (.ref 1 []))),(6,.pl (.one (.ref 2 []))),(7,.pl (.one (.ref 3 [])))],[(1,.box true [.list true 1 (List.map (rL true 1 (rK .i64)) []),.list true 4 (List.map (zA true) [])]),(2,.box true [.sc (.string s),.sc (.int .i64 s_1),.sc (.bool s_2)]),(3,.list true 1 (List.map (rL true 1 (rK .i64)) parents))]⟩) ?_ ?_
    ·refine go ?_; intro x34
     refine go ?_
     refine lp (fun s' e'=>∃ x35 s_9 s_10 s_11 parents_1,s'=(x35,s_9,s_10,s_11,parents_1)∧e'=⟨82,1,4,[(0,.pl (.one (.v (.sc (.string text))))),(2,.pl (.one (.ref 1 []))),(6,.pl (.one (.ref 2 []))),(7,.pl (.one (.ref 3 []))),(34,.pl (.one (.v (.sc (.int .i64 x34.1))))),(35,.pl (.one (.v (.sc (.int .i64 x35)))))],[(1,.box true [.list true 1 (List.map (rL true 1 (rK .i64)) []),.list true 4 (List.map (zA true) [])]),(2,.box true [.sc (.string s_9),.sc (.int .i64 s_10),.sc (.bool s_11)]),(3,.list true 1 (List.map (rL true 1 (rK .i64)) parents_1))]⟩) [0,2,6,7,34,35] [(1,1),(4,2),(5,3)] 4 ⟨_,_,_,_,_,rfl,rfl⟩ ?_
     rintro s' _ ⟨x35,s_9,s_10,s_11,parents_1,rfl,rfl⟩ y1'
     change Tl _ (zA6 x34 x35 s_9 s_10 s_11 parents_1) _ _; unfold zA6
     refine go ?_
     refine sq ?_
     refine go ?_
     refine sp ?_ ?_
     ·refine go ?_
      refine sq ?_
      refine go ?_; intro x37
      refine go ?_; intro l_1 v'
      refine go ?_; intro x42
      refine go ?_
      exact bk [0,2,6,7,34,35] [(1,1),(2,2),(3,3)] 4 ⟨_,_,_,_,_,rfl,rfl⟩
     ·refine go ?_
      exact je [0,2,6,7] [(1,1),(2,2),(3,3)] 4 fun h=>⟨_,_,_,_,h,rfl⟩
    ·rintro e' ⟨s,s_1,s_2,parents,h,rfl⟩; refine tl h ?_; unfold zM1
     refine go ?_
     refine lf ?_ (fun a g=>zP2 a 3 g)
     refine go ?_
     refine jn (fun e'=>∃ s_3 s_4 s_5 list_,zM0 text parents s_3 s_4 s_5 list_=some r'∧e'=⟨82,1,5,[(0,.pl (.one (.v (.sc (.string text))))),(2,.pl (.one (.ref 1 []))),(6,.pl (.one (.ref 2 []))),(7,.pl (.one (.ref 3 []))),(9,.pl (.one (.ref 4 [])))],[(1,.box true [.list true 1 (List.map (rL true 1 (rK .i64)) []),.list true 4 (List.map (zA true) [])]),(2,.box true [.sc (.string s_3),.sc (.int .i64 s_4),.sc (.bool s_5)]),(3,.list true 1 (List.map (rL true 1 (rK .i64)) parents)),(4,.list true 3 (List.map (zG true) list_))]⟩) ?_ ?_
     ·refine go ?_; intro x44
      refine go ?_
      refine lp (fun s' e'=>∃ x45 s_6 s_7 s_8 list__1,s'=(x45,s_6,s_7,s_8,list__1)∧e'=⟨82,1,5,[(0,.pl (.one (.v (.sc (.string text))))),(2,.pl (.one (.ref 1 []))),(6,.pl (.one (.ref 2 []))),(7,.pl (.one (.ref 3 []))),(9,.pl (.one (.ref 4 []))),(44,.pl (.one (.v (.sc (.int .i64 x44.1))))),(45,.pl (.one (.v (.sc (.int .i64 x45)))))],[(1,.box true [.list true 1 (List.map (rL true 1 (rK .i64)) []),.list true 4 (List.map (zA true) [])]),(2,.box true [.sc (.string s_6),.sc (.int .i64 s_7),.sc (.bool s_8)]),(3,.list true 1 (List.map (rL true 1 (rK .i64)) parents)),(4,.list true 3 (List.map (zG true) list__1))]⟩) [0,2,6,7,9,44,45] [(1,1),(2,2),(3,3),(4,4)] 5 ⟨_,_,_,_,_,rfl,rfl⟩ ?_
      rintro s' _ ⟨x45,s_6,s_7,s_8,list__1,rfl,rfl⟩ y1'
      change Tl _ (zA3 x44 x45 s_6 s_7 s_8 list__1) _ _; unfold zA3
      refine go ?_
      refine sq ?_
      refine go ?_
      refine sp ?_ ?_
      ·refine go ?_
       refine sq ?_
       refine go ?_
       refine sq ?_
       refine go ?_
       refine sp ?_ ?_
       ·refine go ?_
        exact je [0,2,6,7,9] [(1,1),(2,2),(3,3),(4,4)] 5 fun h=>⟨_,_,_,_,h,rfl⟩
       ·refine go ?_; intro x49
        refine go ?_
        refine l1 ?_
        refine go ?_; intro l v'
        refine go ?_
        exact bk [0,2,6,7,9,44,45] [(1,1),(2,2),(3,3),(4,4)] 5 ⟨_,_,_,_,_,rfl,rfl⟩
      ·refine go ?_
       exact je [0,2,6,7,9] [(1,1),(2,2),(3,3),(4,4)] 5 fun h=>⟨_,_,_,_,h,rfl⟩
     ·rintro e' ⟨s_3,s_4,s_5,list_,h,rfl⟩; refine tl h ?_; unfold zM0
      refine sq ?_
      refine go ?_; intro x55
      refine go ?_
      refine sp ?_ ?_
      ·exact gz
      ·refine go ?_; intro x61
       refine go ?_
       refine l1 ?_
       refine go ?_; intro x66
       refine go ?_
       refine sq ?_
       refine go ?_
       refine gc 3 (fun b_1 e'=>e'=⟨82,1,3,[(0,.pl (.one (.v (.sc (.string text))))),(2,.pl (.one (.ref 1 []))),(11,.pl (.one (.ref 2 []))),(12,.pl (.one (.v (.sc (.string x66.1))))),(74,.pl (.one (.v (.sc (.bool b_1)))))],[(1,.box true [.list true 1 (List.map (rL true 1 (rK .i64)) []),.list true 4 (List.map (zA true) [])]),(2,.box true [.list true 1 (List.map (rL true 1 (rK .i64)) x61.1.Parents),.list true 4 (List.map (zA true) x61.1.Bodies)])]⟩) ?_ ?_
       ·intro p
        refine xG ?_ ?_
        ·refine go ?_
         exact ge [0,2,11,12,74] [(1,1),(9,2)] 3 rfl
        ·refine go ?_
         exact ge [0,2,11,12,74] [(1,1),(9,2)] 3 rfl
       ·rintro b_1 _ rfl
        refine go ?_
        refine gc 4 (fun b_2 e'=>e'=⟨82,1,3,[(2,.pl (.one (.ref 1 []))),(11,.pl (.one (.ref 2 []))),(79,.pl (.one (.v (.sc (.bool b_2)))))],[(1,.box true [.list true 1 (List.map (rL true 1 (rK .i64)) []),.list true 4 (List.map (zA true) [])]),(2,.box true [.list true 1 (List.map (rL true 1 (rK .i64)) x61.1.Parents),.list true 4 (List.map (zA true) x61.1.Bodies)])]⟩) ?_ ?_
        ·intro p
         refine xG ?_ ?_
         ·refine go ?_
          exact ge [2,11,79] [(1,1),(2,2)] 3 rfl
         ·refine go ?_
          exact ge [2,11,79] [(1,1),(2,2)] 3 rfl
        ·rintro b_2 _ rfl
         refine go ?_
         refine sp ?_ ?_
         ·exact gz
         ·exact gz
instance W_laws_sameInts:∀ a b,Wlk X (zJ3 a b) 51 [] [.one (.list false 1 (List.map (rK .i64) a)),.one (.list false 1 (List.map (rK .i64) b))] (fun r'=>[.one (.sc (.bool r'))]) (fun r'=>[]):=fun a b=>by
 refine ws f51 26 [.tmp 4] (h2 t3 (h2 t39 qM)) ?_
 intro r'; unfold zJ3
 refine go ?_
 refine sq ?_
 refine go ?_
 refine sp ?_ ?_
 ·exact gz
 ·refine go ?_
  refine jn (fun e'=>qA6=some r'∧e'=⟨26,2,2,[],[]⟩) ?_ ?_
  ·refine go ?_
   refine lp (fun i e'=>e'=⟨26,2,2,[(0,.pl (.one (.v (.list false 1 (List.map (rK .i64) a))))),(1,.pl (.one (.v (.list false 1 (List.map (rK .i64) b))))),(5,.pl (.one (.v (.sc (.int .i64 i)))))],[]⟩) [0,1,5] [] 2 rfl ?_
   rintro i _ rfl y1'
   change Tl _ (zC2 a b i) _ _; unfold zC2
   refine sq ?_
   refine go ?_
   refine sp ?_ ?_
   ·refine go ?_
    refine sq ?_
    refine go ?_
    refine rq ?_
    refine go ?_; intro x v'
    refine go ?_; intro x_1 v'
    refine go ?_
    refine sp ?_ ?_
    ·exact gz
    ·refine go ?_
     exact bk [0,1,5] [] 2 rfl
   ·refine go ?_
    exact je [] [] 2 fun h=>⟨h,rfl⟩
  ·rintro e' ⟨h,rfl⟩; refine tl h ?_; unfold qA6
   exact gz
instance W_laws_sameWeave:∀ a b,Wlk X (zG8 a b) 17 [] [.agg [.list false 1 (List.map (rL false 1 (rK .i64)) a.Parents),.list false 4 (List.map (zA false) a.Bodies)],.agg [.list false 1 (List.map (rL false 1 (rK .i64)) b.Parents),.list false 4 (List.map (zA false) b.Bodies)]] (fun r'=>[.one (.sc (.bool r'))]) (fun r'=>[]):=fun a b=>by
 refine ws f17 108 [.tmp 4] (h2 t3 (h2 t9 (h2 t24 (h2 t25 (h2 t27 (h2 t39 (h2 t46 (h2 jF (h2 zL qM))))))))) ?_
 intro r'; unfold zG8
 refine go ?_
 refine sq ?_
 refine go ?_
 refine gc 8 (fun b_1 e'=>e'=⟨108,4,6,[(2,.pl (.one (.ref 4 []))),(3,.pl (.one (.ref 5 []))),(22,.pl (.one (.v (.sc (.bool b_1)))))],[(4,.box true [.list false 1 (List.map (rL false 1 (rK .i64)) a.Parents),.list false 4 (List.map (zA false) a.Bodies)]),(5,.box true [.list false 1 (List.map (rL false 1 (rK .i64)) b.Parents),.list false 4 (List.map (zA false) b.Bodies)])]⟩) ?_ ?_
 ·intro p
  refine xG ?_ ?_
  ·refine go ?_
   exact ge [2,3,22] [(4,4),(5,5)] 6 rfl
  ·refine go ?_
   exact ge [2,3,22] [(4,4),(5,5)] 6 rfl
 ·rintro b_1 _ rfl
  refine go ?_
  refine sp ?_ ?_
  ·exact gz
  ·refine go ?_
   refine jn (fun e'=>zF2 a b=some r'∧e'=⟨108,4,6,[(2,.pl (.one (.ref 4 []))),(3,.pl (.one (.ref 5 [])))],[(4,.box true [.list false 1 (List.map (rL false 1 (rK .i64)) a.Parents),.list false 4 (List.map (zA false) a.Bodies)]),(5,.box true [.list false 1 (List.map (rL false 1 (rK .i64)) b.Parents),.list false 4 (List.map (zA false) b.Bodies)])]⟩) ?_ ?_
   ·refine go ?_
    refine lp (fun v e'=>e'=⟨108,4,6,[(2,.pl (.one (.ref 4 []))),(3,.pl (.one (.ref 5 []))),(5,.pl (.one (.v (.sc (.int .i64 v)))))],[(4,.box true [.list false 1 (List.map (rL false 1 (rK .i64)) a.Parents),.list false 4 (List.map (zA false) a.Bodies)]),(5,.box true [.list false 1 (List.map (rL false 1 (rK .i64)) b.Parents),.list false 4 (List.map (zA false) b.Bodies)])]⟩) [2,3,5] [(4,4),(5,5)] 6 rfl ?_
    rintro v _ rfl y1'
    change Tl _ (zA8 a b v) _ _; unfold zA8
    refine sq ?_
    refine go ?_
    refine sp ?_ ?_
    ·refine go ?_
     refine sq ?_
     refine go ?_
     refine rq ?_
     refine go ?_; intro x_6 v'
     refine go ?_; intro x_7 v'
     refine go ?_; intro x40
     refine go ?_
     refine sp ?_ ?_
     ·exact gz
     ·refine go ?_
      exact bk [2,3,5] [(4,4),(5,5)] 6 rfl
    ·refine go ?_
     exact je [2,3] [(4,4),(5,5)] 6 fun h=>⟨h,rfl⟩
   ·rintro e' ⟨h,rfl⟩; refine tl h ?_; unfold zF2
    refine jn (fun e'=>zX4=some r'∧e'=⟨108,4,4,[],[]⟩) ?_ ?_
    ·refine go ?_
     refine lp (fun i e'=>e'=⟨108,4,6,[(2,.pl (.one (.ref 4 []))),(3,.pl (.one (.ref 5 []))),(6,.pl (.one (.v (.sc (.int .i64 i)))))],[(4,.box true [.list false 1 (List.map (rL false 1 (rK .i64)) a.Parents),.list false 4 (List.map (zA false) a.Bodies)]),(5,.box true [.list false 1 (List.map (rL false 1 (rK .i64)) b.Parents),.list false 4 (List.map (zA false) b.Bodies)])]⟩) [2,3,6] [(4,4),(5,5)] 6 rfl ?_
     rintro i _ rfl y1'
     change Tl _ (zA7 a b i) _ _; unfold zA7
     refine sq ?_
     refine go ?_
     refine sp ?_ ?_
     ·refine go ?_
      refine sq ?_
      refine go ?_
      refine rq ?_
      refine go ?_; intro x v'
      refine go ?_; intro x_1 v'
      refine go ?_
      refine qc 14 (fun b_2 e'=>e'=⟨108,4,6,[(2,.pl (.one (.ref 4 []))),(3,.pl (.one (.ref 5 []))),(6,.pl (.one (.v (.sc (.int .i64 i))))),(76,.pl (.one (.v (.sc (.bool b_2)))))],[(4,.box true [.list false 1 (List.map (rL false 1 (rK .i64)) a.Parents),.list false 4 (List.map (zA false) a.Bodies)]),(5,.box true [.list false 1 (List.map (rL false 1 (rK .i64)) b.Parents),.list false 4 (List.map (zA false) b.Bodies)])]⟩) ?_ ?_
      ·intro p
       refine zD9 ?_ ?_
       ·refine go ?_
        exact ge [2,3,6,76] [(4,4),(5,5)] 6 rfl
       ·refine go ?_
        exact ge [2,3,6,76] [(4,4),(5,5)] 6 rfl
      ·rintro b_2 _ rfl
       refine go ?_
       refine qc 14 (fun b_3 e'=>e'=⟨108,4,6,[(2,.pl (.one (.ref 4 []))),(3,.pl (.one (.ref 5 []))),(6,.pl (.one (.v (.sc (.int .i64 i))))),(91,.pl (.one (.v (.sc (.bool b_3)))))],[(4,.box true [.list false 1 (List.map (rL false 1 (rK .i64)) a.Parents),.list false 4 (List.map (zA false) a.Bodies)]),(5,.box true [.list false 1 (List.map (rL false 1 (rK .i64)) b.Parents),.list false 4 (List.map (zA false) b.Bodies)])]⟩) ?_ ?_
       ·intro p
        refine zD9 ?_ ?_
        ·refine go ?_
         exact ge [2,3,6,91] [(4,4),(5,5)] 6 rfl
        ·refine go ?_; intro x_2 v'
         refine go ?_; intro x_3 v'
         refine go ?_
         exact ge [2,3,6,91] [(4,4),(5,5)] 6 rfl
       ·rintro b_3 _ rfl
        refine go ?_
        refine qc 15 (fun b_4 e'=>e'=⟨108,4,6,[(2,.pl (.one (.ref 4 []))),(3,.pl (.one (.ref 5 []))),(6,.pl (.one (.v (.sc (.int .i64 i))))),(107,.pl (.one (.v (.sc (.bool b_4)))))],[(4,.box true [.list false 1 (List.map (rL false 1 (rK .i64)) a.Parents),.list false 4 (List.map (zA false) a.Bodies)]),(5,.box true [.list false 1 (List.map (rL false 1 (rK .i64)) b.Parents),.list false 4 (List.map (zA false) b.Bodies)])]⟩) ?_ ?_
        ·intro p
         refine zD9 ?_ ?_
         ·refine go ?_
          exact ge [2,3,6,107] [(4,4),(5,5)] 6 rfl
         ·refine go ?_; intro x_4 v'
          refine go ?_; intro x_5 v'
          refine go ?_; intro x105
          refine go ?_
          exact ge [2,3,6,107] [(4,4),(5,5)] 6 rfl
        ·rintro b_4 _ rfl
         refine go ?_
         refine sp ?_ ?_
         ·exact gz
         ·refine go ?_
          exact bk [2,3,6] [(4,4),(5,5)] 6 rfl
     ·refine go ?_
      exact je [] [] 4 fun h=>⟨h,rfl⟩
    ·rintro e' ⟨h,rfl⟩; refine tl h ?_; unfold zX4
     exact gz
instance W_spec_DrawPlaces:∀ code,Wlk X (zK2 code) 27 [] [.one (.list false 1 (List.map (rK .u8) code))] (fun r'=>[.one (.list true 1 (List.map (rK .i64) r'))]) (fun r'=>[]):=fun code=>by
 refine ws f27 21 [.tmp 2] (h2 t3 (h2 t39 (h2 qM R_u8))) ?_
 intro r'; unfold zK2
 refine go ?_
 refine l1 ?_
 refine go ?_; intro x7
 refine go ?_; intro x9
 refine go ?_
 refine jn (fun e'=>∃ out_,zV6 out_=some r'∧e'=⟨21,1,2,[(4,.pl (.one (.ref 1 [])))],[(1,.list true 1 (List.map (rK .i64) out_))]⟩) ?_ ?_
 ·refine go ?_
  refine lp (fun s' e'=>∃ i c c_1 c_2 out__1,s'=(i,c,c_1,c_2,out__1)∧e'=⟨21,1,3,[(3,.pl (.one (.ref 1 []))),(4,.pl (.one (.ref 2 []))),(5,.pl (.one (.v (.sc (.int .i64 i)))))],[(1,.box true [.list false 1 (List.map (rK .u8) c),.sc (.int .i64 c_1),.sc (.int .i64 c_2)]),(2,.list true 1 (List.map (rK .i64) out__1))]⟩) [3,4,5] [(2,1),(4,2)] 3 ⟨_,_,_,_,_,rfl,rfl⟩ ?_
  rintro s' _ ⟨i,c,c_1,c_2,out__1,rfl,rfl⟩ y1'
  change Tl _ (yE i c c_1 c_2 out__1) _ _; unfold yE
  refine sq ?_
  refine go ?_
  refine sp ?_ ?_
  ·refine go ?_
   refine sq ?_
   refine go ?_; intro x17
   refine go ?_; intro l v'
   refine go ?_
   exact bk [3,4,5] [(1,1),(2,2)] 3 ⟨_,_,_,_,_,rfl,rfl⟩
  ·refine go ?_
   exact je [4] [(2,1)] 2 fun h=>⟨_,h,rfl⟩
 ·rintro e' ⟨out_,h,rfl⟩; refine tl h ?_; unfold zV6
  exact gz
instance W_spec_GraphOk:∀ parents,Wlk X (zT9 parents) 203 [] [.one (.list false 1 (List.map (rL false 1 (rK .i64)) parents))] (fun r'=>[.one (.sc (.bool r'))]) (fun r'=>[]):=fun parents=>by
 refine ws f203 28 [.tmp 2] (h2 t3 (h2 t24 (h2 t39 (h2 jF qM)))) ?_
 intro r'; unfold zT9
 refine go ?_
 refine sq ?_
 refine go ?_
 refine sp ?_ ?_
 ·exact gz
 ·refine go ?_
  refine jn (fun e'=>zT7=some r'∧e'=⟨28,1,1,[],[]⟩) ?_ ?_
  ·refine go ?_
   refine lp (fun v e'=>e'=⟨28,1,1,[(0,.pl (.one (.v (.list false 1 (List.map (rL false 1 (rK .i64)) parents))))),(3,.pl (.one (.v (.sc (.int .i64 v)))))],[]⟩) [0,3] [] 1 rfl ?_
   rintro v _ rfl y1'
   change Tl _ (kJ parents v) _ _; unfold kJ
   refine sq ?_
   refine go ?_
   refine sp ?_ ?_
   ·refine go ?_
    refine sq ?_
    refine go ?_; intro x v'
    refine go ?_
    refine gc 8 (fun b e'=>e'=⟨28,1,1,[(0,.pl (.one (.v (.list false 1 (List.map (rL false 1 (rK .i64)) parents))))),(3,.pl (.one (.v (.sc (.int .i64 v))))),(27,.pl (.one (.v (.sc (.bool b)))))],[]⟩) ?_ ?_
    ·intro p
     refine xG ?_ ?_
     ·refine go ?_
      exact ge [0,3,27] [] 1 rfl
     ·refine go ?_; intro x25
      refine go ?_
      exact ge [0,3,27] [] 1 rfl
    ·rintro b _ rfl
     refine go ?_
     refine sp ?_ ?_
     ·exact gz
     ·refine go ?_
      exact bk [0,3] [] 1 rfl
   ·refine go ?_
    exact je [] [] 1 fun h=>⟨h,rfl⟩
  ·rintro e' ⟨h,rfl⟩; refine tl h ?_; unfold zT7
   exact gz
instance W_spec_l06Closure:∀ w v,Wlk X (yR w v) 208 [] [.agg [.list false 1 (List.map (rL false 1 (rK .i64)) w.Parents),.list false 4 (List.map (zA false) w.Bodies)],.one (.sc (.int .i64 v))] (fun r'=>[.one (.list true 1 (List.map rB r'))]) (fun r'=>[]):=fun w v=>by
 refine ws f208 10 [.tmp 4] (h2 t3 (h2 t24 (h2 t27 (h2 t39 (h2 jF (h2 zL (h2 R_b qM))))))) ?_
 intro r'; unfold yR
 refine go ?_
 refine l1 ?_
 refine go ?_; intro x9
 exact gz
instance W_spec_WeaveOk:∀ w,Wlk X (zO0 w) 117 [] [.agg [.list false 1 (List.map (rL false 1 (rK .i64)) w.Parents),.list false 4 (List.map (zA false) w.Bodies)]] (fun r'=>[.one (.sc (.bool r'))]) (fun r'=>[]):=fun w=>by
 refine ws f117 131 [.tmp 2] (h2 t3 (h2 t9 (h2 t24 (h2 t25 (h2 t27 (h2 t39 (h2 t46 (h2 t188 (h2 t249 (h2 R_Lb (h2 jF (h2 zL (h2 R_b qM))))))))))))) ?_
 intro r'; unfold zO0
 refine go ?_
 refine sq ?_
 refine go ?_; intro x13
 refine go ?_
 refine gc 5 (fun b e'=>e'=⟨131,2,3,[(1,.pl (.one (.ref 2 []))),(20,.pl (.one (.v (.sc (.bool b)))))],[(2,.box true [.list false 1 (List.map (rL false 1 (rK .i64)) w.Parents),.list false 4 (List.map (zA false) w.Bodies)])]⟩) ?_ ?_
 ·intro p
  refine xG ?_ ?_
  ·refine go ?_
   exact ge [1,20] [(2,2)] 3 rfl
  ·refine go ?_
   exact ge [1,20] [(2,2)] 3 rfl
 ·rintro b _ rfl
  refine go ?_
  refine sp ?_ ?_
  ·exact gz
  ·refine go ?_; intro x25 v'
   refine go ?_
   refine jn (fun e'=>∃ proper,zT5 w x25 proper=some r'∧e'=⟨131,2,5,[(1,.pl (.one (.ref 2 []))),(3,.pl (.one (.v (.sc (.int .i64 (w.Parents.length:Int)))))),(4,.pl (.one (.ref 3 []))),(5,.pl (.one (.ref 4 [])))],[(2,.box true [.list false 1 (List.map (rL false 1 (rK .i64)) w.Parents),.list false 4 (List.map (zA false) w.Bodies)]),(3,.list true 1 (List.map (rK .i64) x25)),(4,.list true 1 (List.map (rL true 1 rB) proper))]⟩) ?_ ?_
   ·refine go ?_
    refine lp (fun s' e'=>∃ v_1 proper_1,s'=(v_1,proper_1)∧e'=⟨131,2,5,[(1,.pl (.one (.ref 2 []))),(3,.pl (.one (.v (.sc (.int .i64 (w.Parents.length:Int)))))),(4,.pl (.one (.ref 3 []))),(5,.pl (.one (.ref 4 []))),(6,.pl (.one (.v (.sc (.int .i64 v_1)))))],[(2,.box true [.list false 1 (List.map (rL false 1 (rK .i64)) w.Parents),.list false 4 (List.map (zA false) w.Bodies)]),(3,.list true 1 (List.map (rK .i64) x25)),(4,.list true 1 (List.map (rL true 1 rB) proper_1))]⟩) [1,3,4,5,6] [(2,2),(3,3),(4,4)] 5 ⟨_,_,rfl,rfl⟩ ?_
    rintro s' _ ⟨v_1,proper_1,rfl,rfl⟩ y1'
    change Tl _ (wL w v_1 proper_1) _ _; unfold wL
    refine sq ?_
    refine go ?_
    refine sp ?_ ?_
    ·refine go ?_
     refine sq ?_
     refine go ?_
     refine rc [0,1,2,3,4,5,6,7,8,9,10,11] ?_
     refine go ?_; intro x_6 v'
     refine go ?_; intro x40
     refine go ?_; intro l v'
     refine go ?_
     exact bk [1,3,4,5,6] [(2,2),(3,3),(4,4)] 5 ⟨_,_,rfl,rfl⟩
    ·refine go ?_
     exact je [1,3,4,5] [(2,2),(3,3),(4,4)] 5 fun h=>⟨_,h,rfl⟩
   ·rintro e' ⟨proper,h,rfl⟩; refine tl h ?_; unfold zT5
    refine jn (fun e'=>∃ born,zK0 w born=some r'∧e'=⟨131,2,4,[(1,.pl (.one (.ref 2 []))),(3,.pl (.one (.v (.sc (.int .i64 (w.Parents.length:Int)))))),(4,.pl (.one (.ref 3 [])))],[(2,.box true [.list false 1 (List.map (rL false 1 (rK .i64)) w.Parents),.list false 4 (List.map (zA false) w.Bodies)]),(3,.list true 1 (List.map (rK .i64) born))]⟩) ?_ ?_
    ·refine go ?_
     refine lp (fun s' e'=>∃ i born_1,s'=(i,born_1)∧e'=⟨131,2,5,[(1,.pl (.one (.ref 2 []))),(3,.pl (.one (.v (.sc (.int .i64 (w.Parents.length:Int)))))),(4,.pl (.one (.ref 3 []))),(5,.pl (.one (.ref 4 []))),(7,.pl (.one (.v (.sc (.int .i64 i)))))],[(2,.box true [.list false 1 (List.map (rL false 1 (rK .i64)) w.Parents),.list false 4 (List.map (zA false) w.Bodies)]),(3,.list true 1 (List.map (rK .i64) born_1)),(4,.list true 1 (List.map (rL true 1 rB) proper))]⟩) [1,3,4,5,7] [(2,2),(3,3),(4,4)] 5 ⟨_,_,rfl,rfl⟩ ?_
     rintro s' _ ⟨i,born_1,rfl,rfl⟩ y1'
     change Tl _ (xO w proper i born_1) _ _; unfold xO
     refine sq ?_
     refine go ?_
     refine sp ?_ ?_
     ·refine go ?_
      refine jn (fun e'=>∃ born_2,zT4 i born_2=some y1'∧e'=⟨131,2,5,[(1,.pl (.one (.ref 2 []))),(3,.pl (.one (.v (.sc (.int .i64 (w.Parents.length:Int)))))),(4,.pl (.one (.ref 3 []))),(5,.pl (.one (.ref 4 []))),(7,.pl (.one (.v (.sc (.int .i64 i)))))],[(2,.box true [.list false 1 (List.map (rL false 1 (rK .i64)) w.Parents),.list false 4 (List.map (zA false) w.Bodies)]),(3,.list true 1 (List.map (rK .i64) born_2)),(4,.list true 1 (List.map (rL true 1 rB) proper))]⟩) ?_ ?_
      ·refine go ?_; intro x_1 v'
       refine go ?_
       refine l1 ?_
       refine go ?_
       refine sq ?_
       refine go ?_
       refine rq ?_
       refine go ?_; intro x57
       refine go ?_
       refine qc 7 (fun b_2 e'=>e'=⟨131,2,6,[(1,.pl (.one (.ref 2 []))),(3,.pl (.one (.v (.sc (.int .i64 (w.Parents.length:Int)))))),(4,.pl (.one (.ref 3 []))),(5,.pl (.one (.ref 4 []))),(7,.pl (.one (.v (.sc (.int .i64 i))))),(8,.pl (.one (.ref 5 []))),(66,.pl (.one (.v (.sc (.bool b_2)))))],[(2,.box true [.list false 1 (List.map (rL false 1 (rK .i64)) w.Parents),.list false 4 (List.map (zA false) w.Bodies)]),(3,.list true 1 (List.map (rK .i64) born_1)),(4,.list true 1 (List.map (rL true 1 rB) proper)),(5,.box true [.sc (.string x_1.Line),.sc (.int .i64 x_1.Ins),.sc (.int .i64 x_1.Ord),.list false 1 (List.map (rK .i64) x_1.Dels)])]⟩) ?_ ?_
       ·intro p
        refine zD9 ?_ ?_
        ·refine go ?_
         exact ge [1,3,4,5,7,8,66] [(2,2),(3,3),(4,4),(5,5)] 6 rfl
        ·refine go ?_; intro x64
         refine go ?_
         exact ge [1,3,4,5,7,8,66] [(2,2),(3,3),(4,4),(5,5)] 6 rfl
       ·rintro b_2 _ rfl
        refine go ?_
        refine qc 9 (fun b_3 e'=>e'=⟨131,2,6,[(1,.pl (.one (.ref 2 []))),(3,.pl (.one (.v (.sc (.int .i64 (w.Parents.length:Int)))))),(4,.pl (.one (.ref 3 []))),(5,.pl (.one (.ref 4 []))),(7,.pl (.one (.v (.sc (.int .i64 i))))),(8,.pl (.one (.ref 5 []))),(76,.pl (.one (.v (.sc (.bool b_3)))))],[(2,.box true [.list false 1 (List.map (rL false 1 (rK .i64)) w.Parents),.list false 4 (List.map (zA false) w.Bodies)]),(3,.list true 1 (List.map (rK .i64) born_1)),(4,.list true 1 (List.map (rL true 1 rB) proper)),(5,.box true [.sc (.string x_1.Line),.sc (.int .i64 x_1.Ins),.sc (.int .i64 x_1.Ord),.list false 1 (List.map (rK .i64) x_1.Dels)])]⟩) ?_ ?_
        ·intro p
         refine zD9 ?_ ?_
         ·refine go ?_
          exact ge [1,3,4,5,7,8,76] [(2,2),(3,3),(4,4),(5,5)] 6 rfl
         ·refine go ?_; intro x_2 v'
          refine go ?_
          exact ge [1,3,4,5,7,8,76] [(2,2),(3,3),(4,4),(5,5)] 6 rfl
        ·rintro b_3 _ rfl
         refine go ?_
         refine qc 6 (fun b_4 e'=>e'=⟨131,2,6,[(1,.pl (.one (.ref 2 []))),(3,.pl (.one (.v (.sc (.int .i64 (w.Parents.length:Int)))))),(4,.pl (.one (.ref 3 []))),(5,.pl (.one (.ref 4 []))),(7,.pl (.one (.v (.sc (.int .i64 i))))),(8,.pl (.one (.ref 5 []))),(83,.pl (.one (.v (.sc (.bool b_4)))))],[(2,.box true [.list false 1 (List.map (rL false 1 (rK .i64)) w.Parents),.list false 4 (List.map (zA false) w.Bodies)]),(3,.list true 1 (List.map (rK .i64) born_1)),(4,.list true 1 (List.map (rL true 1 rB) proper)),(5,.box true [.sc (.string x_1.Line),.sc (.int .i64 x_1.Ins),.sc (.int .i64 x_1.Ord),.list false 1 (List.map (rK .i64) x_1.Dels)])]⟩) ?_ ?_
         ·intro p
          refine zD9 ?_ ?_
          ·refine go ?_
           exact ge [1,3,4,5,7,8,83] [(2,2),(3,3),(4,4),(5,5)] 6 rfl
          ·refine go ?_; intro x81
           refine go ?_
           exact ge [1,3,4,5,7,8,83] [(2,2),(3,3),(4,4),(5,5)] 6 rfl
         ·rintro b_4 _ rfl
          refine go ?_
          refine sp ?_ ?_
          ·exact gz
          ·refine go ?_
           refine rc [0,1,2,3,4,5,6,7,8,9,10] ?_
           refine go ?_; intro x_3 v'
           refine go ?_
           refine lp (fun k e'=>e'=⟨131,2,6,[(1,.pl (.one (.ref 2 []))),(3,.pl (.one (.v (.sc (.int .i64 (w.Parents.length:Int)))))),(4,.pl (.one (.ref 3 []))),(5,.pl (.one (.ref 4 []))),(7,.pl (.one (.v (.sc (.int .i64 i))))),(8,.pl (.one (.ref 5 []))),(9,.pl (.one (.v (.sc (.int .i64 k)))))],[(2,.box true [.list false 1 (List.map (rL false 1 (rK .i64)) w.Parents),.list false 4 (List.map (zA false) w.Bodies)]),(3,.list true 1 (List.map (rK .i64) (born_1.set x_1.Ins.toNat (wk .i64 (x_3+1))))),(4,.list true 1 (List.map (rL true 1 rB) proper)),(5,.box true [.sc (.string x_1.Line),.sc (.int .i64 x_1.Ins),.sc (.int .i64 x_1.Ord),.list false 1 (List.map (rK .i64) x_1.Dels)])]⟩) [1,3,4,5,7,8,9] [(2,2),(3,3),(4,4),(5,5)] 6 rfl ?_
           rintro k _ rfl y2'
           change Tl _ (zE4 proper x_1 k) _ _; unfold zE4
           refine sq ?_
           refine go ?_
           refine sp ?_ ?_
           ·refine go ?_
            refine sq ?_
            refine go ?_
            refine rq ?_
            refine go ?_; intro x_4 v'
            refine go ?_; intro x_5 v'
            refine go ?_; intro x110
            refine go ?_
            refine sp ?_ ?_
            ·exact gz
            ·refine go ?_
             exact bk [1,3,4,5,7,8,9] [(2,2),(3,3),(4,4),(5,5)] 6 rfl
           ·refine go ?_
            exact je [1,3,4,5,7] [(2,2),(3,3),(4,4)] 5 fun h=>⟨_,h,rfl⟩
      ·rintro e' ⟨born_2,h,rfl⟩; refine tl h ?_; unfold zT4
       refine go ?_
       exact bk [1,3,4,5,7] [(2,2),(3,3),(4,4)] 5 ⟨_,_,rfl,rfl⟩
     ·refine go ?_
      exact je [1,3,4] [(2,2),(3,3)] 4 fun h=>⟨_,h,rfl⟩
    ·rintro e' ⟨born,h,rfl⟩; refine tl h ?_; unfold zK0
     refine jn (fun e'=>qC4=some r'∧e'=⟨131,2,2,[],[]⟩) ?_ ?_
     ·refine go ?_
      refine lp (fun v e'=>e'=⟨131,2,4,[(1,.pl (.one (.ref 2 []))),(3,.pl (.one (.v (.sc (.int .i64 (w.Parents.length:Int)))))),(4,.pl (.one (.ref 3 []))),(10,.pl (.one (.v (.sc (.int .i64 v)))))],[(2,.box true [.list false 1 (List.map (rL false 1 (rK .i64)) w.Parents),.list false 4 (List.map (zA false) w.Bodies)]),(3,.list true 1 (List.map (rK .i64) born))]⟩) [1,3,4,10] [(2,2),(3,3)] 4 rfl ?_
      rintro v _ rfl y1'
      change Tl _ (zE2 w born v) _ _; unfold zE2
      refine sq ?_
      refine go ?_
      refine sp ?_ ?_
      ·refine go ?_
       refine sq ?_
       refine go ?_
       refine bx ?_; intro x v'; refine fk (geti_f v') ?_
       refine bx ?_; intro b_1 gh0_25_0
       refine jr (fun e'=>e'=⟨131,2,4,[(1,.pl (.one (.ref 2 []))),(3,.pl (.one (.v (.sc (.int .i64 (w.Parents.length:Int)))))),(4,.pl (.one (.ref 3 []))),(10,.pl (.one (.v (.sc (.int .i64 v))))),(130,.pl (.one (.v (.sc (.bool b_1)))))],[(2,.box true [.list false 1 (List.map (rL false 1 (rK .i64)) w.Parents),.list false 4 (List.map (zA false) w.Bodies)]),(3,.list true 1 (List.map (rK .i64) born))]⟩) ?_ ?_
       ·refine rc [0,1,2,3,4,5,6,7,8,9,10,11,12,13] ?_
        refine go ?_
        refine cs (fun c0=>?_) (fun c0=>?_)
        ·replace gh0_25_0:=(ifT c0).symm.trans gh0_25_0
         obtain rfl:=zso gh0_25_0
         refine go ?_
         exact gq [1,3,4,10,130] [(2,2),(3,3)] 4 rfl
        ·replace gh0_25_0:=(ifF c0).symm.trans gh0_25_0
         obtain ⟨x126,hy_x126,gh0_25_0⟩:=zbi gh0_25_0
         obtain ⟨x127,hy_x127,gh0_25_0⟩:=zbi gh0_25_0
         obtain rfl:=zso gh0_25_0
         refine go ?_
         refine cc hy_x126 ?_
         refine cc hy_x127 ?_
         refine go ?_
         exact gq [1,3,4,10,130] [(2,2),(3,3)] 4 rfl
       ·rintro e' rfl; refine cn ?_
        refine sp ?_ ?_
        ·exact gz
        ·refine go ?_
         exact bk [1,3,4,10] [(2,2),(3,3)] 4 rfl
      ·refine go ?_
       exact je [] [] 2 fun h=>⟨h,rfl⟩
     ·rintro e' ⟨h,rfl⟩; refine tl h ?_; unfold qC4
      exact gz
instance W_spec_l06Has:∀ w v,Wlk X (zR8 w v) 118 [] [.agg [.list false 1 (List.map (rL false 1 (rK .i64)) w.Parents),.list false 4 (List.map (zA false) w.Bodies)],.one (.sc (.int .i64 v))] (fun r'=>[.one (.sc (.bool r'))]) (fun r'=>[]):=fun w v=>by
 refine ws f118 11 [.tmp 4] (h2 t3 (h2 t24 (h2 t27 (h2 jF (h2 zL qM))))) ?_
 intro r'; unfold zR8
 refine go ?_; intro x10
 exact gz
instance W_spec_l06Text:∀ w v,Wlk X (zN2 w v) 119 [] [.agg [.list false 1 (List.map (rL false 1 (rK .i64)) w.Parents),.list false 4 (List.map (zA false) w.Bodies)],.one (.sc (.int .i64 v))] (fun r'=>[.one (.list true 1 (List.map rS r'))]) (fun r'=>[]):=fun w v=>by
 refine ws f119 12 [.tmp 4] (h2 t27 (h2 jF (h2 zL (h2 R_b (h2 qM R_s))))) ?_
 intro r'; unfold zN2
 refine go ?_
 refine l1 ?_
 refine go ?_
 refine rc [3,0,1,2,4,5,6,7] ?_
 refine go ?_; intro x9
 refine go ?_; intro x10
 refine go ?_; intro x11
 exact gz
instance W_spec_Extract:∀ w v,Wlk X (zO4 w v) 32 [] [.agg [.list false 1 (List.map (rL false 1 (rK .i64)) w.Parents),.list false 4 (List.map (zA false) w.Bodies)],.one (.sc (.int .i64 v))] (fun r'=>[.one (.list true 1 (List.map rS r'.1)),.one (.sc (.int .i64 r'.2))]) (fun r'=>[]):=fun w v=>by
 refine ws f32 18 [.tmp 4,.tmp 5] (h2 t9 (h2 t27 (h2 t36 (h2 jF (h2 zL (h2 qM R_s)))))) ?_
 intro r'; unfold zO4
 refine go ?_
 refine l1 ?_
 refine go ?_
 refine sq ?_
 refine go ?_; intro x7
 refine go ?_
 refine sp ?_ ?_
 ·exact gz
 ·refine go ?_
  refine sq ?_
  refine go ?_; intro x12
  refine go ?_
  refine sp ?_ ?_
  ·exact gz
  ·refine go ?_; intro x17
   exact gz
instance W_spec_JoinLines:∀ list_,Wlk X (zO7 list_) 33 [] [.one (.list false 1 (List.map rS list_))] (fun r'=>[.one (.sc (.string r'.1)),.one (.sc (.bool r'.2))]) (fun r'=>[]):=fun list_=>by
 refine ws f33 27 [.tmp 2,.tmp 3] (h2 t3 (h2 t5 (h2 t9 (h2 t22 (h2 t36 (h2 R_s R_u8)))))) ?_
 intro r'; unfold zO7
 refine go ?_
 refine sq ?_
 refine go ?_; intro x7
 refine go ?_
 refine sp ?_ ?_
 ·exact gz
 ·refine go ?_
  refine jn (fun e'=>∃ out_,zM5 out_=some r'∧e'=⟨27,1,2,[(4,.pl (.one (.ref 1 [])))],[(1,.list true 1 (List.map (rK .u8) out_))]⟩) ?_ ?_
  ·refine go ?_
   refine lp (fun s' e'=>∃ i out__1,s'=(i,out__1)∧e'=⟨27,1,2,[(0,.pl (.one (.v (.list false 1 (List.map rS list_))))),(4,.pl (.one (.ref 1 []))),(5,.pl (.one (.v (.sc (.int .i64 i)))))],[(1,.list true 1 (List.map (rK .u8) out__1))]⟩) [0,4,5] [(2,1)] 2 ⟨_,_,rfl,rfl⟩ ?_
   rintro s' _ ⟨i,out__1,rfl,rfl⟩ y1'
   change Tl _ (wG list_ i out__1) _ _; unfold wG
   refine sq ?_
   refine go ?_
   refine sp ?_ ?_
   ·refine go ?_
    refine sq ?_
    refine go ?_; intro x v'
    refine go ?_; intro l v'
    refine go ?_; intro l_1 v'
    refine go ?_
    exact bk [0,4,5] [(1,1)] 2 ⟨_,_,rfl,rfl⟩
   ·refine go ?_
    exact je [4] [(1,1)] 2 fun h=>⟨_,h,rfl⟩
  ·rintro e' ⟨out_,h,rfl⟩; refine tl h ?_; unfold zM5
   exact gz
instance W_impl_Weave_areVersions:∀ w list_,Wlk X (vY w list_) 191 [] [.one (.box false [.list false 1 (List.map (rL false 1 (rK .i64)) w.Parents),.list false 4 (List.map (zA false) w.Bodies)]),.one (.list false 1 (List.map (rK .i64) list_))] (fun r'=>[.one (.sc (.bool r'))]) (fun r'=>[]):=fun w list_=>by
 refine ws f191 22 [.tmp 4] (h2 t3 (h2 t24 (h2 t27 (h2 t39 (h2 jF (h2 zL qM)))))) ?_
 intro r'; unfold vY
 refine go ?_
 refine jn (fun e'=>zF7=some r'∧e'=⟨22,2,2,[],[]⟩) ?_ ?_
 ·refine go ?_
  refine lp (fun x9 e'=>e'=⟨22,2,2,[(0,.pl (.one (.v (.box false [.list false 1 (List.map (rL false 1 (rK .i64)) w.Parents),.list false 4 (List.map (zA false) w.Bodies)])))),(7,.pl (.one (.v (.list false 1 (List.map (rK .i64) list_))))),(8,.pl (.one (.v (.sc (.int .i64 (list_.length:Int)))))),(9,.pl (.one (.v (.sc (.int .i64 x9)))))],[]⟩) [0,7,8,9] [] 2 rfl ?_
  rintro x9 _ rfl y1'
  change Tl _ (xV w list_ x9) _ _; unfold xV
  refine go ?_
  refine sq ?_
  refine go ?_
  refine sp ?_ ?_
  ·refine go ?_
   refine sq ?_
   refine go ?_; intro x v'
   refine go ?_; intro x19
   refine go ?_
   refine sp ?_ ?_
   ·exact gz
   ·refine go ?_
    exact bk [0,7,8,9] [] 2 rfl
  ·refine go ?_
   exact je [] [] 2 fun h=>⟨h,rfl⟩
 ·rintro e' ⟨h,rfl⟩; refine tl h ?_; unfold zF7
  exact gz
instance W_impl_versionsCode:∀ w list_,Wlk X (zM6 w list_) 80 [] [.agg [.list false 1 (List.map (rL false 1 (rK .i64)) w.Parents),.list false 4 (List.map (zA false) w.Bodies)],.one (.list false 1 (List.map (rK .i64) list_))] (fun r'=>[.one (.sc (.int .i64 r'))]) (fun r'=>[]):=fun w list_=>by
 refine ws f80 13 [.tmp 4] (h2 t27 (h2 jF (h2 zL qM))) ?_
 intro r'; unfold zM6
 refine go ?_
 refine sq ?_
 refine go ?_; intro x7
 refine go ?_
 refine sp ?_ ?_
 ·exact gz
 ·refine go ?_; intro x11
  refine go ?_
  refine sp ?_ ?_
  ·exact gz
  ·exact gz
instance W_impl_Extract:∀ w v,Wlk X (zN4 w v) 20 [] [.agg [.list false 1 (List.map (rL false 1 (rK .i64)) w.Parents),.list false 4 (List.map (zA false) w.Bodies)],.one (.sc (.int .i64 v))] (fun r'=>[.one (.list true 1 (List.map rS r'.1)),.one (.sc (.int .i64 r'.2))]) (fun r'=>[]):=fun w v=>by
 refine ws f20 16 [.tmp 4,.tmp 5] (h2 t3 (h2 t27 (h2 t39 (h2 jF (h2 zL (h2 qM R_s)))))) ?_
 intro r'; unfold zN4
 refine go ?_
 refine l1 ?_
 refine go ?_
 refine sq ?_
 refine go ?_; intro x10
 refine go ?_
 refine sp ?_ ?_
 ·refine go ?_
  refine l1 ?_
  exact gz
 ·refine go ?_; intro x15
  exact gz
instance W_impl_VersionSum:∀ w v,Wlk X (zE3 w v) 34 [] [.agg [.list false 1 (List.map (rL false 1 (rK .i64)) w.Parents),.list false 4 (List.map (zA false) w.Bodies)],.one (.sc (.int .i64 v))] (fun r'=>[.one (.sc (.int .u32 r'.1)),.one (.sc (.int .i64 r'.2))]) (fun r'=>[]):=fun w v=>by
 refine ws f34 20 [.tmp 4,.tmp 5] (h2 t3 (h2 t27 (h2 jF (h2 zL (h2 qM R_s))))) ?_
 intro r'; unfold zE3
 refine go ?_; intro x11
 refine go ?_
 refine sq ?_
 refine go ?_
 refine sp ?_ ?_
 ·exact gz
 ·refine go ?_; intro x18
  refine go ?_; intro x19
  exact gz
instance W_spec_SumMore:∀ sum text,Wlk X (zP0 sum text) 122 [] [.one (.sc (.int .u32 sum)),.one (.sc (.string text))] (fun r'=>[.one (.sc (.int .u32 r'))]) (fun r'=>[]):=fun sum text=>by
 refine ws f122 33 [.tmp 4] (h2 t3 (h2 t5 (h2 t9 t59))) ?_
 intro r'; unfold zP0
 refine go ?_
 refine jn (fun e'=>∃ sum_1,qB9 sum_1=some r'∧e'=⟨33,2,2,[(0,.pl (.one (.v (.sc (.int .u32 sum_1)))))],[]⟩) ?_ ?_
 ·refine go ?_
  refine lp (fun s' e'=>∃ sum_2 i,s'=(sum_2,i)∧e'=⟨33,2,2,[(0,.pl (.one (.v (.sc (.int .u32 sum_2))))),(1,.pl (.one (.v (.sc (.string text))))),(5,.pl (.one (.v (.sc (.int .i64 i)))))],[]⟩) [0,1,5] [] 2 ⟨_,_,rfl,rfl⟩ ?_
  rintro s' _ ⟨sum_2,i,rfl,rfl⟩ y1'
  change Tl _ (kG text sum_2 i) _ _; unfold kG
  refine sq ?_
  refine go ?_
  refine sp ?_ ?_
  ·refine go ?_
   refine jn (fun e'=>∃ sum_3,zK3 i sum_3=some y1'∧e'=⟨33,2,2,[(0,.pl (.one (.v (.sc (.int .u32 sum_3))))),(1,.pl (.one (.v (.sc (.string text))))),(5,.pl (.one (.v (.sc (.int .i64 i)))))],[]⟩) ?_ ?_
   ·refine go ?_; intro x17 v'
    refine go ?_
    refine lp (fun s' e'=>∃ sum_4 k,s'=(sum_4,k)∧e'=⟨33,2,2,[(0,.pl (.one (.v (.sc (.int .u32 sum_4))))),(1,.pl (.one (.v (.sc (.string text))))),(5,.pl (.one (.v (.sc (.int .i64 i))))),(6,.pl (.one (.v (.sc (.int .i64 k)))))],[]⟩) [0,1,5,6] [] 2 ⟨_,_,rfl,rfl⟩ ?_
    rintro s' _ ⟨sum_4,k,rfl,rfl⟩ y2'
    change Tl _ (xN sum_4 k) _ _; unfold xN
    refine sq ?_
    refine go ?_
    refine sp ?_ ?_
    ·refine go ?_
     refine sq ?_
     refine go ?_
     refine sp ?_ ?_
     ·refine go ?_
      exact bk [0,1,5,6] [] 2 ⟨_,_,rfl,rfl⟩
     ·refine go ?_
      exact bk [0,1,5,6] [] 2 ⟨_,_,rfl,rfl⟩
    ·refine go ?_
     exact je [0,1,5] [] 2 fun h=>⟨_,h,rfl⟩
   ·rintro e' ⟨sum_3,h,rfl⟩; refine tl h ?_; unfold zK3
    refine go ?_
    exact bk [0,1,5] [] 2 ⟨_,_,rfl,rfl⟩
  ·refine go ?_
   exact je [0] [] 2 fun h=>⟨_,h,rfl⟩
 ·rintro e' ⟨sum_1,h,rfl⟩; refine tl h ?_; unfold qB9
  exact gz
instance W_spec_SumOf:∀ text,Wlk X (wN text) 35 [] [.one (.sc (.string text))] (fun r'=>[.one (.sc (.int .u32 r'))]) (fun r'=>[]):=fun text=>by
 refine ws f35 5 [.tmp 2] trivial ?_
 intro r'; unfold wN
 refine go ?_; intro x4
 exact gz
instance W_laws_FnWoven:∀ code,Wlk X (laws_FnWoven code) 5 [] [.one (.list false 1 (List.map (rK .u8) code))] (fun r'=>[.one (.sc (.bool r'))]) (fun r'=>[]):=fun code=>by
 refine ws f5 121 [.tmp 2] (h2 t3 (h2 t5 (h2 t9 (h2 t22 (h2 t24 (h2 t27 (h2 t39 (h2 t59 (h2 jF (h2 zL (h2 qM (h2 R_s R_u8)))))))))))) ?_
 intro r'; unfold laws_FnWoven
 refine go ?_
 refine sq ?_
 refine go ?_; intro x23
 refine go ?_
 refine sp ?_ ?_
 ·exact gz
 ·refine go ?_; intro x26
  refine go ?_
  refine l1 ?_
  refine go ?_; intro x32
  refine go ?_; intro x37
  refine go ?_
  refine l1 ?_
  refine go ?_
  refine sq ?_
  refine go ?_
  refine gc 3 (fun b e'=>e'=⟨121,1,3,[(0,.pl (.one (.v (.list false 1 (List.map (rK .u8) code))))),(3,.pl (.one (.ref 1 []))),(6,.pl (.one (.v (.sc (.string x32.1))))),(8,.pl (.one (.ref 2 []))),(45,.pl (.one (.v (.sc (.bool b)))))],[(1,.box true [.list true 1 (List.map (rL true 1 (rK .i64)) x26.1.Parents),.list true 4 (List.map (zA true) x26.1.Bodies)]),(2,.box true [.list true 1 (List.map (rL true 1 (rK .i64)) x37.1.Parents),.list true 4 (List.map (zA true) x37.1.Bodies)])]⟩) ?_ ?_
  ·intro p
   refine xG ?_ ?_
   ·refine go ?_
    exact ge [0,3,6,8,45] [(6,1),(12,2)] 3 rfl
   ·refine go ?_
    exact ge [0,3,6,8,45] [(6,1),(12,2)] 3 rfl
  ·rintro b _ rfl
   refine go ?_
   refine gc 5 (fun b_1 e'=>e'=⟨121,1,2,[(0,.pl (.one (.v (.list false 1 (List.map (rK .u8) code))))),(3,.pl (.one (.ref 1 []))),(6,.pl (.one (.v (.sc (.string x32.1))))),(51,.pl (.one (.v (.sc (.bool b_1)))))],[(1,.box true [.list true 1 (List.map (rL true 1 (rK .i64)) x26.1.Parents),.list true 4 (List.map (zA true) x26.1.Bodies)])]⟩) ?_ ?_
   ·intro p
    refine xG ?_ ?_
    ·refine go ?_
     exact ge [0,3,6,51] [(1,1)] 2 rfl
    ·refine go ?_; intro x49
     refine go ?_
     exact ge [0,3,6,51] [(1,1)] 2 rfl
   ·rintro b_1 _ rfl
    refine go ?_
    refine gc 4 (fun b_2 e'=>e'=⟨121,1,2,[(0,.pl (.one (.v (.list false 1 (List.map (rK .u8) code))))),(3,.pl (.one (.ref 1 []))),(6,.pl (.one (.v (.sc (.string x32.1))))),(56,.pl (.one (.v (.sc (.bool b_2)))))],[(1,.box true [.list true 1 (List.map (rL true 1 (rK .i64)) x26.1.Parents),.list true 4 (List.map (zA true) x26.1.Bodies)])]⟩) ?_ ?_
    ·intro p
     refine xG ?_ ?_
     ·refine go ?_
      exact ge [0,3,6,56] [(1,1)] 2 rfl
     ·refine go ?_
      exact ge [0,3,6,56] [(1,1)] 2 rfl
    ·rintro b_2 _ rfl
     refine go ?_
     refine sp ?_ ?_
     ·exact gz
     ·refine go ?_; intro x58
      refine go ?_; intro x v'
      refine go ?_; intro u v'
      refine go ?_
      refine rc [0,1,2,3,4,5,6,7,8,9,10,11,12,13,14] ?_
      refine go ?_; intro x_1 v'
      refine go ?_; intro x_2 v'
      refine go ?_; intro x84
      refine go ?_
      refine l1 ?_
      refine go ?_
      refine jn (fun e'=>qE3 x84=some r'∧e'=⟨121,1,1,[(14,.pl (.one (.v (.sc (.int .i64 x84.2)))))],[]⟩) ?_ ?_
      ·refine go ?_
       refine lp (fun v e'=>e'=⟨121,1,2,[(3,.pl (.one (.ref 1 []))),(14,.pl (.one (.v (.sc (.int .i64 x84.2))))),(15,.pl (.one (.v (.sc (.int .i64 v)))))],[(1,.box true [.list true 1 (List.map (rL true 1 (rK .i64)) x26.1.Parents),.list true 4 (List.map (zA true) x26.1.Bodies)])]⟩) [3,14,15] [(1,1)] 2 rfl ?_
       rintro v _ rfl y1'
       change Tl _ (zE1 x26 v) _ _; unfold zE1
       refine sq ?_
       refine go ?_
       refine sp ?_ ?_
       ·refine go ?_
        refine sq ?_
        refine go ?_; intro x97
        refine go ?_; intro x102
        refine go ?_; intro x108
        refine go ?_
        refine gc 5 (fun b_3 e'=>e'=⟨121,1,2,[(3,.pl (.one (.ref 1 []))),(14,.pl (.one (.v (.sc (.int .i64 x84.2))))),(15,.pl (.one (.v (.sc (.int .i64 v))))),(118,.pl (.one (.v (.sc (.bool b_3)))))],[(1,.box true [.list true 1 (List.map (rL true 1 (rK .i64)) x26.1.Parents),.list true 4 (List.map (zA true) x26.1.Bodies)])]⟩) ?_ ?_
        ·intro p
         refine xG ?_ ?_
         ·refine go ?_
          exact ge [3,14,15,118] [(1,1)] 2 rfl
         ·refine go ?_; intro x116
          refine go ?_
          exact ge [3,14,15,118] [(1,1)] 2 rfl
        ·rintro b_3 _ rfl
         refine go ?_
         refine sp ?_ ?_
         ·exact gz
         ·refine go ?_
          exact bk [3,14,15] [(1,1)] 2 rfl
       ·refine go ?_
        exact je [14] [] 1 fun h=>⟨h,rfl⟩
      ·rintro e' ⟨h,rfl⟩; refine tl h ?_; unfold qE3
       exact gz
end Go.TV.KFnWoven
