/- Walks. -/
import Derived.Test.YtbapbpnchdpbhaaGreatKFnExactReadWeaveE
import Derived.Test.YtbapbpnchdpbhaaGreatKFnExactReadWeaveW1
set_option linter.unusedVariables false
set_option linter.unusedSimpArgs false
set_option maxHeartbeats 8000000
set_option maxRecDepth 100000
namespace Go.TV.KFnExactReadWeave
attribute [local irreducible] wpV opsV Does yU yP RetL quV seqV Cy lpP cutP cutQ
open Go.Proofs.Tryz Go.TV.F
instance W_impl_Records:∀ w,Wlk X (zN0 w) 15 [] [.agg [.list false 1 (List.map (rL false 1 (rK .i64)) w.Parents),.list false 4 (List.map (zA false) w.Bodies)]] (fun r'=>[.one (.list true 3 (List.map (zB true) r'.1)),.one (.sc (.bool r'.2))]) (fun r'=>[]):=fun w=>by
 refine ws f15 14 [.tmp 2,.tmp 3] (h2 t3 (h2 t27 (h2 t30 (h2 jJ (h2 zM (h2 xJ qI)))))) ?_
 intro r'; unfold zN0
 refine go ?_
 refine lf ?_ (fun a g=>zB5 a 3 g)
 refine go ?_
 refine sq ?_
 refine go ?_; intro x6
 refine go ?_
 refine sp ?_ ?_
 ·refine go ?_
  refine lf ?_ (fun a g=>zB5 a 3 g)
  exact gz
 ·refine go ?_; intro x9
  refine go ?_
  refine sq ?_
  refine go ?_
  refine sp ?_ ?_
  ·refine go ?_
   refine lf ?_ (fun a g=>zB5 a 3 g)
   exact gz
  ·exact gz
instance W_impl_varText:∀ n,Wlk X (yS n) 88 [] [.one (.sc (.int .i64 n))] (fun r'=>[.one (.sc (.string r'))]) (fun r'=>[]):=fun n=>by
 refine ws f88 21 [.tmp 2] (h2 t3 (h2 t5 (h2 t9 (h2 t22 R_u8)))) ?_
 intro r'; unfold yS
 refine go ?_
 refine l1 ?_
 refine go ?_
 refine jn (fun e'=>∃ n_1 out_,zS8 n_1 out_=some r'∧e'=⟨21,1,2,[(0,.pl (.one (.v (.sc (.int .i64 n_1))))),(3,.pl (.one (.ref 1 [])))],[(1,.list true 1 (List.map (rK .u8) out_))]⟩) ?_ ?_
 ·refine go ?_
  refine lp (fun s' e'=>∃ n_2 out__1,s'=(n_2,out__1)∧e'=⟨21,1,2,[(0,.pl (.one (.v (.sc (.int .i64 n_2))))),(3,.pl (.one (.ref 1 [])))],[(1,.list true 1 (List.map (rK .u8) out__1))]⟩) [0,3] [(1,1)] 2 ⟨_,_,rfl,rfl⟩ ?_
  rintro s' _ ⟨n_2,out__1,rfl,rfl⟩ y1'
  change Tl _ (zJ1 n_2 out__1) _ _; unfold zJ1
  refine sq ?_
  refine go ?_
  refine sp ?_ ?_
  ·refine go ?_; intro l_1 v'
   refine go ?_
   exact bk [0,3] [(1,1)] 2 ⟨_,_,rfl,rfl⟩
  ·refine go ?_
   exact je [0,3] [(1,1)] 2 fun h=>⟨_,_,h,rfl⟩
 ·rintro e' ⟨n_1,out_,h,rfl⟩; refine tl h ?_; unfold zS8
  refine go ?_; intro l v'
  exact gz
section
open Go.RowKit Go.Proofs Go
theorem zK3:∃ j,Tryz.prog.info? 139=some j∧j.size=2:=by
 have:(Tryz.prog.info? 139).map (·.size)=some 2:=by kernel_rfl
 obtain ⟨j,h1,h2⟩:=Option.map_eq_some_iff.1 this
 exact ⟨j,h1,h2⟩
theorem qC8:liesAt Tryz.prog Tryz.prog.depth 139 (2 / Tryz.prog.cellsOf 139) 0 139 1=true:=by kernel_rfl
theorem zP6 (b:Nat) (w:World) (h0:w.cell? ⟨b,0,none⟩=some (.pointer (some ⟨b,0,none⟩))) :
  Calls Tryz.prog 194 #[.pointer (some ⟨b,0,none⟩)] w fun e w'=>e=.returned (.tuple #[])∧w'=w:=by
 obtain ⟨j,hj,_⟩:=zK3
 go_enter Tryz.func194,Tryz.ntmps194
 go_wp2
 rw [Go.Lib.run_neq_ptr_same w _ Tryz.underlying137 hj]
 go_wp2
 go_end0
 exact ⟨rfl,rfl⟩
theorem zL4 (b:Nat) (w:World) (h0:w.cell? ⟨b,0,none⟩=some (.pointer none)) (hsh:w.shape? b=some (139,2)) (hfz:w.frozen? ⟨b,0,none⟩=false) :
  Calls Tryz.prog 194 #[.pointer (some ⟨b,0,none⟩)] w fun e w'=>e=.returned (.tuple #[])∧w'=w.setCell ⟨b,0,none⟩ (.pointer (some ⟨b,0,none⟩)):=by
 obtain ⟨j,hj,hjs⟩:=zK3
 go_enter Tryz.func194,Tryz.ntmps194
 go_wp2
 rw [Go.Lib.run_to_unsafe w ⟨b,0,none⟩ Tryz.underlying137 Tryz.underlying291 hj (by rw [hjs]; decide) hsh (Nat.zero_lt_succ 1)]
 simp only [Result.andThen]
 rw [Oper.upon_value]
 go_wp2
 rw [run_callFunc_extern Tryz.func263 (by kernel_rfl) (by kernel_rfl) (by kernel_rfl) (e:=Extern.AbiNoEscape.same) (by kernel_rfl)]
 rw [Go.Lib.run_noEscape]
 simp only [Result.andThen]
 rw [Oper.upon_value]
 go_wp2
 rw [Go.Lib.run_from_unsafe w ⟨b,0,none⟩ Tryz.underlying291 Tryz.underlying137 hj hsh qC8]
 simp only [Result.andThen]
 rw [Oper.upon_value]
 go_wp2
 go_end0
 exact ⟨rfl,rfl⟩
theorem zY1:∃ i,Tryz.prog.info? 5=some i∧i.zero=some (.int .u8 0)∧i.size=1∧i.bytes=1:=by
 have:(Tryz.prog.info? 5).map (fun i=>(i.zero,i.size,i.bytes))=some (some (.int .u8 0),1,1):=by kernel_rfl
 obtain ⟨i,h1,h2⟩:=Option.map_eq_some_iff.1 this
 injection h2 with h2 h3
 injection h3 with h3 h4
 exact ⟨i,h1,h2,h3,h4⟩
theorem zW7 (b:Nat) (p v:Value) (s x:ByteArray) (w:World) (hbk:w.heap[b]? = some (.cells #[p,v] 139 (0,0))) (hp:p=.pointer none∨p=.pointer (some ⟨b,0,none⟩)) (hown:w.ownsRow 0 5 1 v s.size (Go.Lib.strCells s)) (hne:v.ownBlock≠some b) (hlen:s.size+x.size≤549755813888) :
  Calls Tryz.prog 87 #[.pointer (some ⟨b,0,none⟩),.string x] w fun e w'=>e=.returned (.tuple #[.int .i64 x.size,.nilIface])∧∃ v',w'.heap[b]? = some (.cells #[.pointer (some ⟨b,0,none⟩),v'] 139 (0,0))∧w'.ownsRow 0 5 1 v' (s.size+x.size) (Go.Lib.strCells s++Go.Lib.strCells x)∧v'.ownBlock≠some b ∧
   w'.os=w.os∧w'.tape=w.tape∧w'.output=w.output∧w.heap.size≤w'.heap.size∧(∀ k,k < w.heap.size→k≠b→v.ownBlock≠some k→w'.heap[k]? = w.heap[k]?)∧(∀ g,v'.ownBlock=some g→v.ownBlock=some g∨w.heap.size≤g)∧(v=.slice none 0 0→x.size=0→v'=.slice none 0 0):=by
 obtain ⟨i0,hi,hz0,hz1,hz2⟩:=zY1
 have hblt:b < w.heap.size:=by
  rcases Nat.lt_or_ge b w.heap.size with h' | h'
  ·exact h'
  ·simp [Array.getElem?_eq_none h'] at hbk
 have hc0:w.cell? ⟨b,0,none⟩=some p:=by rw [Go.Lib.cell_of_heap hbk]; rfl
 have hsh:w.shape? b=some (139,2):=by simp [World.shape?,hbk]
 have hfz:w.frozen? ⟨b,0,none⟩=false:=Go.Lib.frozen_of_heap hbk 0
 -- behind the look at the copy
 have key:Calls Tryz.prog 194 #[.pointer (some ⟨b,0,none⟩)] w fun e w1=>e=.returned (.tuple #[])∧w1.heap[b]? = some (.cells #[.pointer (some ⟨b,0,none⟩),v] 139 (0,0))∧w1.os=w.os∧w1.tape=w.tape∧w1.output=w.output∧w1.heap.size=w.heap.size∧(∀ k,k≠b→w1.heap[k]? = w.heap[k]?):=by
  rcases hp with rfl | rfl
  ·refine (zL4 b w hc0 hsh hfz).mono ?_
   rintro e w1 ⟨rfl,rfl⟩
   refine ⟨rfl,?_,rfl,rfl,rfl,by simp [World.setCell],fun k hk=>Below.heap_setCell _ _ _ _ hk⟩
   simp [World.setCell,Array.getElem?_modify,hbk]
  ·refine (zP6 b w hc0).mono ?_
   rintro e w1 ⟨rfl,rfl⟩
   exact ⟨rfl,hbk,rfl,rfl,rfl,rfl,fun _ _=>rfl⟩
 have e194:∀ args w,(callFunc 194 args).run Tryz.prog w=.ok (.enter 194 args) w:=enters_of Tryz.func194 (by kernel_rfl) rfl
 go_enter Tryz.func87,Tryz.ntmps87
 go_wp2_with (go_at_fn 194; refine key.mono ?_)
 rintro e w1 ⟨rfl,hbk1,o1,o2,o3,o4,o5⟩
 have hown1:w1.ownsRow 0 5 1 v s.size (Go.Lib.strCells s):=by
  refine ⟨hown.1,?_⟩
  rcases hown.2 with h | ⟨g,cap,cur,rfl,h2,h3,h4⟩
  ·exact .inl h
  ·exact .inr ⟨g,cap,cur,rfl,h2,by rw [o5 g (fun q=>hne (by simp [Value.ownBlock,q]))]; exact h3,h4⟩
 have c1:w1.cell? ⟨b,1,none⟩=some v:=by rw [Go.Lib.cell_of_heap hbk1]; rfl
 obtain ⟨v',w2,hr,hown2,hgrow,hnew,hnil⟩:=Go.TV.append_bld (P:=Tryz.prog) w1 22 9 22 5 i0 Tryz.underlying22 Tryz.underlying9 hi hz0 hz1 hz2 v s.size (Go.Lib.strCells s) hown1 x hlen
 go_wp2_with (at_builtin; refine Go.TV.wpList_app2 rfl _ _ 22 9 rfl rfl rfl hr ?_)
 rintro v2 w3 ⟨e1,e2⟩
 rw [e1,e2]
 clear e1 e2
 have hb2:w2.heap[b]? = some (.cells #[.pointer (some ⟨b,0,none⟩),v] 139 (0,0)):=by
  rw [hgrow.block b (by omega) (fun e=>hne e.symm)]
  exact hbk1
 have d0:w2.cell? ⟨b,0,none⟩=some (.pointer (some ⟨b,0,none⟩)):=by rw [Go.Lib.cell_of_heap hb2]; rfl
 have d1:w2.cell? ⟨b,1,none⟩=some v:=by rw [Go.Lib.cell_of_heap hb2]; rfl
 have f1:w2.frozen? ⟨b,1,none⟩=false:=Go.Lib.frozen_of_heap hb2 1
 obtain ⟨ao,n',cap,rfl⟩:∃ ao n' cap,v'=.slice ao n' cap:=by
  rcases hown2.2 with ⟨hv,_⟩ | ⟨g,cap,cur,hv,_⟩
  ·exact ⟨_,_,_,hv⟩
  ·exact ⟨_,_,_,hv⟩
 go_wp2
 go_ret2
 have hne2:(Value.slice ao n' cap).ownBlock≠some b:=fun q=>by
  rcases hnew b q with h | h
  ·exact hne h
  ·omega
 refine ⟨rfl,_,?_,?_,hne2,hgrow.os.trans o1,hgrow.tape.trans o2,hgrow.output.trans o3,?_,?_,?_,hnil⟩
 ·simp [World.setCell,Array.getElem?_modify,hb2]
 ·refine ⟨hown2.1,?_⟩
  rcases hown2.2 with h | ⟨g,cap',cur,h1,h2,h3,h4⟩
  ·exact .inl h
  ·refine .inr ⟨g,cap',cur,h1,h2,?_,h4⟩
   rw [Below.heap_setCell _ _ _ _ (fun q=>hne2 (by rw [h1,q]; rfl))]
   exact h3
 ·have:=hgrow.size
  simp [World.setCell]
  omega
 ·intro k hk hkb hkv
  rw [Below.heap_setCell _ _ _ _ hkb,hgrow.block k (by omega) (fun q=>hkv q.symm),o5 k hkb]
 ·intro g hg
  rcases hnew g hg with h | h
  ·exact .inl h
  ·right
   omega
end
theorem qD5 (b:ByteArray) (x:ByteArray) (r':ByteArray) (h0':zN b x=some r'):Fn X 87 [.one (.bld 139 5 b),.one (.sc (.string x))] [.one (.sc (.int .i64 (x.size:Int))),.one (.sc .nilIface)] [(0,.bld 139 5 r')]:=by
 unfold zN at h0'
 split at h0'
 case isFalse=>cases h0'
 rename_i hs
 obtain rfl:=zso h0'
 exact Fn_bldWrite ⟨_,Go.Proofs.Tryz.func87,rfl,rfl⟩ (fun bb p v w h1 h2 h3 h4=>zW7 bb p v b x w h1 h2 h3 h4 hs)
instance:∀ b x,Wlk X (zN b x) 87 [0] [.one (.bld 139 5 b),.one (.sc (.string x))] (fun r'=>[.one (.sc (.int .i64 (x.size:Int))),.one (.sc .nilIface)]) (fun r'=>[(0,.bld 139 5 r')]):=fun b x=>⟨fun r' h=>qD5 b x r' h⟩
section
open Go.RowKit Go.Proofs Go
theorem qA7 (s:ByteArray) (h:s.size=0):s=ByteArray.empty:=by
 apply ByteArray.ext
 have:s.data.size=0:=h
 exact Array.eq_empty_of_size_eq_zero this
theorem qB6 (b:Nat) (p v:Value) (s:ByteArray) (w:World) (hbk:w.heap[b]? = some (.cells #[p,v] 139 (0,0))) (hown:w.ownsRow 0 5 1 v s.size (Go.Lib.strCells s)) (hne:v.ownBlock≠some b) (hz:s.size=0→v=.slice none 0 0) :
  Calls Tryz.prog 92 #[.pointer (some ⟨b,0,none⟩)] w fun e w'=>e=.returned (.string s)∧w'.os=w.os∧w'.tape=w.tape∧w'.output=w.output∧w.heap.size≤w'.heap.size∧(∀ k,k < w.heap.size→k≠b→v.ownBlock≠some k→w'.heap[k]? = w.heap[k]?):=by
 have mixed:Tryz.prog.follows .mixedOrders=true:=by kernel_rfl
 by_cases h0:s.size=0
 ·have hs:=qA7 s h0
  subst hs
  have hv:=hz h0
  subst hv
  have hUS:∀ (W:World) (q:Option Addr),(Builtin.unsafeString_ #[241,3] 9 #[.pointer q,.int .i64 0]).run Tryz.prog W=.ok (.string .empty) W:=fun W q=>Go.Lib.run_unsafeString_none W _ _ _ q
  have c1:w.drew.cell? ⟨b,1,none⟩=some (.slice none 0 0):=by
   have:w.drew.heap[b]? = some (.cells #[p,.slice none 0 0] 139 (0,0)):=hbk
   rw [Go.Lib.cell_of_heap this]; rfl
  have hSD:(Builtin.unsafeSliceData_ #[22] 241 #[.slice none 0 0]).run Tryz.prog w.drew=.ok (.pointer none) w.drew:=rfl
  go_enter Tryz.func92,Tryz.ntmps92
  go_wp2
  go_region_o
  all_goals (go_wp2; go_ret; exact ⟨rfl,rfl,rfl,rfl,Nat.le_refl _,fun _ _ _ _=>rfl⟩)
 ·have hl:s.data.toList.length=s.size:=rfl
  have hl0:s.data.toList≠[]:=fun q=>h0 (by
   rw [q] at hl
   exact hl.symm)
  obtain ⟨g,cap,cur,rfl,hbg,hg,hnc,hcm,hcs,htake⟩:∃ g cap cur,v=.slice (some ⟨g,0,none⟩) s.size cap∧0≤g∧w.heap[g]? = some (.cells cur 5 (0,0))∧s.size≤cap∧cap≤maxLen∧cur.size=cap * 1∧cur.toList.take (s.size * 1)=Go.Lib.strCells s:=by
   rcases hown.2 with ⟨_,hz⟩ | ⟨g,cap,cur,hv,r⟩
   ·exact absurd hz h0
   ·exact ⟨g,cap,cur,hv,r⟩
  have c1:w.drew.cell? ⟨b,1,none⟩=some (.slice (some ⟨g,0,none⟩) s.size cap):=by
   have:w.drew.heap[b]? = some (.cells #[p,.slice (some ⟨g,0,none⟩) s.size cap] 139 (0,0)):=hbk
   rw [Go.Lib.cell_of_heap this]; rfl
  have hSD:(Builtin.unsafeSliceData_ #[22] 241 #[.slice (some ⟨g,0,none⟩) s.size cap]).run Tryz.prog w.drew=.ok (.pointer (some ⟨g,0,none⟩)) w.drew:=
   Go.Lib.run_unsafeSliceData_row _ _ _ _ _ _ (by omega)
  have hUS:(Builtin.unsafeString_ #[241,3] 9 #[.pointer (some ⟨g,0,none⟩),.int .i64 s.size]).run Tryz.prog w.drew=.ok (.string s) (w.drew.freeze ⟨g,0,none⟩ s.size):=by
   have:=Go.Lib.run_unsafeString_row (P:=Tryz.prog) w.drew 241 3 9 5 Tryz.underlying241 (by kernel_rfl) g cur.size (by have hg':w.drew.heap[g]? = some (.cells cur 5 (0,0)):=hg; simp [World.shape?,hg']) s.data.toList hl0 (by omega) (by unfold maxLen at hcm; omega) (fun j x hx=>by
    have:=hown.cells (g:=g) rfl j (.int .u8 x.toNat) (by simp only [Go.Lib.strCells,List.getElem?_map,hx,Option.map_some])
    exact this)
   rw [hl] at this
   rw [this]
  have hfr:∀ k,k≠g→(w.drew.freeze ⟨g,0,none⟩ s.size).heap[k]? = w.heap[k]?:=fun k hk=>by
   unfold World.freeze
   rw [if_neg h0]
   simp only [Array.getElem?_modify]
   rw [if_neg (fun q=>hk q.symm)]
   rfl
  have hsz:(w.drew.freeze ⟨g,0,none⟩ s.size).heap.size=w.heap.size:=by
   unfold World.freeze
   rw [if_neg h0]
   exact Array.size_modify
  have ho:(w.drew.freeze ⟨g,0,none⟩ s.size).os=w.os∧(w.drew.freeze ⟨g,0,none⟩ s.size).tape=w.tape∧(w.drew.freeze ⟨g,0,none⟩ s.size).output=w.output:=by
   unfold World.freeze
   rw [if_neg h0]
   exact ⟨rfl,rfl,rfl⟩
  go_enter Tryz.func92,Tryz.ntmps92
  go_wp2
  go_region_o
  all_goals (go_wp2; go_ret; exact ⟨rfl,ho.1,ho.2.1,ho.2.2,Nat.le_of_eq hsz.symm,fun k _ _ hk=>hfr k (fun q=>hk (by rw [q]; rfl))⟩)
end
theorem qI8 (b:ByteArray) (r':ByteArray) (h0':kW b=some r'):Fn X 92 [.one (.bld 139 5 b)] [.one (.sc (.string r'))] []:=by
 obtain rfl:=zso h0'
 exact Fn_bldString ⟨_,Go.Proofs.Tryz.func92,rfl,rfl⟩ (fun bb p v w h1 h2 h3 h4=>qB6 bb p v b w h1 h2 h3 h4)
instance:∀ b,Wlk X (kW b) 92 [0] [.one (.bld 139 5 b)] (fun r'=>[.one (.sc (.string r'))]) (fun r'=>[]):=fun b=>⟨fun r' h=>qI8 b r' h⟩
instance W_impl_listText:∀ list_,Wlk X (zR2 list_) 111 [] [.one (.list false 1 (List.map (rK .i64) list_))] (fun r'=>[.one (.sc (.string r'))]) (fun r'=>[]):=fun list_=>by
 refine ws f111 21 [.tmp 2] (h2 t3 (h2 t39 (h2 t139 qI))) ?_
 intro r'; unfold zR2
 refine go ?_
 refine lf ?_ (fun a g=>opsV_bldN a 5 g)
 refine go ?_; intro x8
 refine go ?_; intro x9
 refine go ?_
 refine jn (fun e'=>∃ b,zY5 b=some r'∧e'=⟨21,1,2,[(3,.pl (.one (.ref 1 [])))],[(1,.bld 139 5 b)]⟩) ?_ ?_
 ·refine go ?_
  refine lp (fun s' e'=>∃ x12 b_1,s'=(x12,b_1)∧e'=⟨21,1,2,[(3,.pl (.one (.ref 1 []))),(10,.pl (.one (.v (.list false 1 (List.map (rK .i64) list_))))),(11,.pl (.one (.v (.sc (.int .i64 (list_.length:Int)))))),(12,.pl (.one (.v (.sc (.int .i64 x12)))))],[(1,.bld 139 5 b_1)]⟩) [3,10,11,12] [(1,1)] 2 ⟨_,_,rfl,rfl⟩ ?_
  rintro s' _ ⟨x12,b_1,rfl,rfl⟩ y1'
  change Tl _ (vW list_ x12 b_1) _ _; unfold vW
  refine go ?_
  refine sq ?_
  refine go ?_
  refine sp ?_ ?_
  ·refine go ?_
   refine sq ?_
   refine go ?_; intro x v'
   refine go ?_; intro x17
   refine go ?_; intro x18
   refine go ?_
   exact bk [3,10,11,12] [(1,1)] 2 ⟨_,_,rfl,rfl⟩
  ·refine go ?_
   exact je [3] [(1,1)] 2 fun h=>⟨_,h,rfl⟩
 ·rintro e' ⟨b,h,rfl⟩; refine tl h ?_; unfold zY5
  refine go ?_; intro x20
  exact gz
instance W_impl_Weave_linesAt:∀ w places,Wlk X (zB9 w places) 192 [] [.one (.box false [.list false 1 (List.map (rL false 1 (rK .i64)) w.Parents),.list false 4 (List.map (zA false) w.Bodies)]),.one (.list false 1 (List.map (rK .i64) places))] (fun r'=>[.one (.list true 1 (List.map rS r'))]) (fun r'=>[]):=fun w places=>by
 refine ws f192 27 [.tmp 4] (h2 t3 (h2 t9 (h2 t25 (h2 t27 (h2 t36 (h2 t39 (h2 t46 (h2 jJ (h2 zM (h2 qI R_s)))))))))) ?_
 intro r'; unfold zB9
 refine go ?_
 refine l1 ?_
 refine go ?_
 refine l1 ?_
 refine go ?_
 refine jn (fun e'=>∃ out_,zP2 out_=some r'∧e'=⟨27,2,3,[(5,.pl (.one (.ref 2 [])))],[(2,.list true 1 (List.map rS out_))]⟩) ?_ ?_
 ·refine go ?_
  refine lp (fun s' e'=>∃ x10 out__1,s'=(x10,out__1)∧e'=⟨27,2,3,[(0,.pl (.one (.v (.box false [.list false 1 (List.map (rL false 1 (rK .i64)) w.Parents),.list false 4 (List.map (zA false) w.Bodies)])))),(5,.pl (.one (.ref 2 []))),(8,.pl (.one (.v (.list false 1 (List.map (rK .i64) places))))),(9,.pl (.one (.v (.sc (.int .i64 (places.length:Int)))))),(10,.pl (.one (.v (.sc (.int .i64 x10)))))],[(2,.list true 1 (List.map rS out__1))]⟩) [0,5,8,9,10] [(3,2)] 3 ⟨_,_,rfl,rfl⟩ ?_
  rintro s' _ ⟨x10,out__1,rfl,rfl⟩ y1'
  change Tl _ (jR w places x10 out__1) _ _; unfold jR
  refine go ?_
  refine sq ?_
  refine go ?_
  refine sp ?_ ?_
  ·refine go ?_
   refine sq ?_
   refine go ?_; intro x v'
   refine go ?_; intro x_1 v'
   refine go ?_; intro l v'
   refine go ?_
   exact bk [0,5,8,9,10] [(2,2)] 3 ⟨_,_,rfl,rfl⟩
  ·refine go ?_
   exact je [5] [(2,2)] 3 fun h=>⟨_,h,rfl⟩
 ·rintro e' ⟨out_,h,rfl⟩; refine tl h ?_; unfold zP2
  exact gz
instance W_impl_Weave_extract:∀ w v,Wlk X (uF w v) 81 [] [.one (.box false [.list false 1 (List.map (rL false 1 (rK .i64)) w.Parents),.list false 4 (List.map (zA false) w.Bodies)]),.one (.sc (.int .i64 v))] (fun r'=>[.one (.list true 1 (List.map rS r'))]) (fun r'=>[]):=fun w v=>by
 refine ws f81 17 [.tmp 4] (h2 t24 (h2 t27 (h2 t124 (h2 t125 (h2 jJ (h2 zM (h2 qI (h2 R_s R_u64)))))))) ?_
 intro r'; unfold uF
 refine go ?_
 refine l1 ?_
 refine go ?_; intro x11
 refine go ?_; intro x v'
 refine go ?_; intro x15
 refine go ?_; intro x16
 exact gz
instance W_impl_joinLines:∀ list_,Wlk X (zO2 list_) 113 [] [.one (.list false 1 (List.map rS list_))] (fun r'=>[.one (.sc (.string r'))]) (fun r'=>[]):=fun list_=>by
 refine ws f113 17 [.tmp 2] (h2 t3 (h2 t9 (h2 t36 (h2 t139 R_s)))) ?_
 intro r'; unfold zO2
 refine go ?_
 refine lf ?_ (fun a g=>opsV_bldN a 5 g)
 refine go ?_
 refine jn (fun e'=>∃ b,zW9 b=some r'∧e'=⟨17,1,2,[(3,.pl (.one (.ref 1 [])))],[(1,.bld 139 5 b)]⟩) ?_ ?_
 ·refine go ?_
  refine lp (fun s' e'=>∃ x8 b_1,s'=(x8,b_1)∧e'=⟨17,1,2,[(3,.pl (.one (.ref 1 []))),(6,.pl (.one (.v (.list false 1 (List.map rS list_))))),(7,.pl (.one (.v (.sc (.int .i64 (list_.length:Int)))))),(8,.pl (.one (.v (.sc (.int .i64 x8)))))],[(1,.bld 139 5 b_1)]⟩) [3,6,7,8] [(1,1)] 2 ⟨_,_,rfl,rfl⟩ ?_
  rintro s' _ ⟨x8,b_1,rfl,rfl⟩ y1'
  change Tl _ (vC list_ x8 b_1) _ _; unfold vC
  refine go ?_
  refine sq ?_
  refine go ?_
  refine sp ?_ ?_
  ·refine go ?_
   refine sq ?_
   refine go ?_; intro x v'
   refine go ?_; intro t v'
   refine go ?_; intro x14
   refine go ?_
   exact bk [3,6,7,8] [(1,1)] 2 ⟨_,_,rfl,rfl⟩
  ·refine go ?_
   exact je [3] [(1,1)] 2 fun h=>⟨_,h,rfl⟩
 ·rintro e' ⟨b,h,rfl⟩; refine tl h ?_; unfold zW9
  refine go ?_; intro x16
  exact gz
instance W_impl_shortText:∀ s,Wlk X (zM6 s) 197 [] [.one (.sc (.string s))] (fun r'=>[.one (.sc (.string r'))]) (fun r'=>[]):=fun s=>by
 refine ws f197 8 [.tmp 2] t9 ?_
 intro r'; unfold zM6
 refine go ?_; intro x5
 refine go ?_; intro t v'
 exact gz
instance W_impl_recText:∀ r,Wlk X (zT7 r) 114 [] [.agg [.sc (.int .i64 r.Kind),.sc (.int .i64 r.Version),.sc (.string r.Line)]] (fun r'=>[.one (.sc (.string r'))]) (fun r'=>[]):=fun r=>by
 refine ws f114 22 [.tmp 2] (h2 t3 (h2 t5 (h2 t9 (h2 t22 t114)))) ?_
 intro r'; unfold zT7
 refine go ?_
 refine fk (show zM8 [[V.sc (.int .u8 (wk .u8 r.Kind))]]=some [(wk .u8 r.Kind)] from qK [(wk .u8 r.Kind)]) ?_
 refine go ?_
 refine sq ?_
 refine go ?_
 refine sp ?_ ?_
 ·refine go ?_; intro x15
  refine go ?_; intro t v'
  exact gz
 ·refine go ?_; intro x20
  refine go ?_; intro t_1 v'
  exact gz
instance W_impl_Sealed:∀ text,Wlk X (zY3 text) 91 [] [.one (.sc (.string text))] (fun r'=>[.one (.sc (.string r'.1)),.one (.sc (.bool r'.2))]) (fun r'=>[]):=fun text=>by
 refine ws f91 11 [.tmp 2,.tmp 3] (h2 t3 t9) ?_
 intro r'; unfold zY3
 refine go ?_
 refine sq ?_
 refine go ?_
 refine sp ?_ ?_
 ·exact gz
 ·refine go ?_; intro x9
  refine go ?_; intro t v'
  exact gz
instance W_impl_WeaveText:∀ w,Wlk X (zF4 w) 30 [] [.agg [.list false 1 (List.map (rL false 1 (rK .i64)) w.Parents),.list false 4 (List.map (zA false) w.Bodies)]] (fun r'=>[.one (.sc (.string r'.1)),.one (.sc (.bool r'.2))]) (fun r'=>[]):=fun w=>by
 refine ws f30 59 [.tmp 2,.tmp 3] (h2 t3 (h2 t9 (h2 t24 (h2 t27 (h2 t30 (h2 t39 (h2 t114 (h2 t139 (h2 jJ (h2 zM (h2 xJ (h2 qI R_s)))))))))))) ?_
 intro r'; unfold zF4
 refine go ?_; intro x13
 refine go ?_
 refine sq ?_
 refine go ?_
 refine sp ?_ ?_
 ·exact gz
 ·refine go ?_
  refine lf ?_ (fun a g=>opsV_bldN a 5 g)
  refine go ?_; intro x21
  refine go ?_; intro t v'
  refine go ?_; intro x23
  refine go ?_
  refine jn (fun e'=>∃ b,zM1 x13 b=some r'∧e'=⟨59,2,4,[(4,.pl (.one (.ref 2 []))),(6,.pl (.one (.ref 3 [])))],[(2,.list true 3 (List.map (zB true) x13.1)),(3,.bld 139 5 b)]⟩) ?_ ?_
  ·refine go ?_
   refine lp (fun s' e'=>∃ x27 b_3,s'=(x27,b_3)∧e'=⟨59,2,5,[(1,.pl (.one (.ref 2 []))),(4,.pl (.one (.ref 3 []))),(6,.pl (.one (.ref 4 []))),(25,.pl (.one (.v (.list false 1 (List.map (rL false 1 (rK .i64)) w.Parents))))),(26,.pl (.one (.v (.sc (.int .i64 (w.Parents.length:Int)))))),(27,.pl (.one (.v (.sc (.int .i64 x27)))))],[(2,.box true [.list false 1 (List.map (rL false 1 (rK .i64)) w.Parents),.list false 4 (List.map (zA false) w.Bodies)]),(3,.list true 3 (List.map (zB true) x13.1)),(4,.bld 139 5 b_3)]⟩) [1,4,6,25,26,27] [(2,2),(3,3),(5,4)] 5 ⟨_,_,rfl,rfl⟩ ?_
   rintro s' _ ⟨x27,b_3,rfl,rfl⟩ y1'
   change Tl _ (xQ w x27 b_3) _ _; unfold xQ
   refine go ?_
   refine sq ?_
   refine go ?_
   refine sp ?_ ?_
   ·refine go ?_
    refine sq ?_
    refine go ?_; intro x_1 v'
    refine go ?_; intro x33
    refine go ?_; intro x35
    refine go ?_; intro x36
    refine go ?_; intro x37
    refine go ?_; intro t_1 v'
    refine go ?_; intro x39
    refine go ?_
    exact bk [1,4,6,25,26,27] [(2,2),(3,3),(4,4)] 5 ⟨_,_,rfl,rfl⟩
   ·refine go ?_
    exact je [4,6] [(3,2),(4,3)] 4 fun h=>⟨_,h,rfl⟩
  ·rintro e' ⟨b,h,rfl⟩; refine tl h ?_; unfold zM1
   refine go ?_; intro x43
   refine go ?_; intro x44
   refine go ?_
   refine jn (fun e'=>∃ b_1,zE2 b_1=some r'∧e'=⟨59,2,3,[(6,.pl (.one (.ref 2 [])))],[(2,.bld 139 5 b_1)]⟩) ?_ ?_
   ·refine go ?_
    refine lp (fun s' e'=>∃ x47 b_2,s'=(x47,b_2)∧e'=⟨59,2,4,[(6,.pl (.one (.ref 2 []))),(45,.pl (.one (.ref 3 []))),(46,.pl (.one (.v (.sc (.int .i64 (x13.1.length:Int)))))),(47,.pl (.one (.v (.sc (.int .i64 x47)))))],[(2,.bld 139 5 b_2),(3,.list true 3 (List.map (zB true) x13.1))]⟩) [6,45,46,47] [(3,2),(2,3)] 4 ⟨_,_,rfl,rfl⟩ ?_
    rintro s' _ ⟨x47,b_2,rfl,rfl⟩ y1'
    change Tl _ (vI x13 x47 b_2) _ _; unfold vI
    refine go ?_
    refine sq ?_
    refine go ?_
    refine sp ?_ ?_
    ·refine go ?_
     refine sq ?_
     refine go ?_; intro x v'
     refine go ?_
     refine l1 ?_
     refine go ?_; intro x52
     refine go ?_; intro x53
     refine go ?_
     exact bk [6,45,46,47] [(2,2),(3,3)] 4 ⟨_,_,rfl,rfl⟩
    ·refine go ?_
     exact je [6] [(2,2)] 3 fun h=>⟨_,h,rfl⟩
   ·rintro e' ⟨b_1,h,rfl⟩; refine tl h ?_; unfold zE2
    refine go ?_; intro x55
    refine go ?_; intro x56
    exact gz
instance W_impl_ReadWeave:∀ text,Wlk X (zF7 text) 31 [] [.one (.sc (.string text))] (fun r'=>[.agg [.list true 1 (List.map (rL true 1 (rK .i64)) r'.1.Parents),.list true 4 (List.map (zA true) r'.1.Bodies)],.one (.sc (.int .i64 r'.2))]) (fun r'=>[]):=fun text=>by
 refine ws f31 82 [.cell 2 27,.tmp 3] (h2 t3 (h2 t4 (h2 t9 (h2 t24 (h2 t25 (h2 t27 (h2 t30 (h2 t39 (h2 t114 (h2 t153 (h2 jJ (h2 zM (h2 xJ qI))))))))))))) ?_
 intro r'; unfold zF7
 refine go ?_
 refine l1 ?_
 refine go ?_
 refine sq ?_
 refine go ?_
 refine gc 4 (fun b e'=>e'=⟨82,1,2,[(0,.pl (.one (.v (.sc (.string text))))),(2,.pl (.one (.ref 1 []))),(21,.pl (.one (.v (.sc (.bool b)))))],[(1,.box true [.list true 1 (List.map (rL true 1 (rK .i64)) []),.list true 4 (List.map (zA true) [])])]⟩) ?_ ?_
 ·intro p
  refine qS ?_ ?_
  ·refine go ?_
   exact ge [0,2,21] [(1,1)] 2 rfl
  ·refine go ?_
   exact ge [0,2,21] [(1,1)] 2 rfl
 ·rintro b _ rfl
  refine go ?_
  refine sp ?_ ?_
  ·exact gz
  ·refine go ?_; intro x25
   refine go ?_
   refine sq ?_
   refine go ?_
   refine sp ?_ ?_
   ·exact gz
   ·refine go ?_
    refine l1 ?_
    refine go ?_; intro x33
    refine go ?_
    refine l1 ?_
    refine go ?_
    refine jn (fun e'=>∃ s s_1 s_2 parents,zE0 text s s_1 s_2 parents=some r'∧e'=⟨82,1,4,[(0,.pl (.one (.v (.sc (.string text))))),(2,.pl (.one (.ref 1 []))),(6,.pl (.one (.ref 2 []))),(7,.pl (.one (.ref 3 [])))],[(1,.box true [.list true 1 (List.map (rL true 1 (rK .i64)) []),.list true 4 (List.map (zA true) [])]),(2,.box true [.sc (.string s),.sc (.int .i64 s_1),.sc (.bool s_2)]),(3,.list true 1 (List.map (rL true 1 (rK .i64)) parents))]⟩) ?_ ?_
    ·refine go ?_; intro x34
     refine go ?_
     refine lp (fun s' e'=>∃ x35 s_9 s_10 s_11 parents_1,s'=(x35,s_9,s_10,s_11,parents_1)∧e'=⟨82,1,4,[(0,.pl (.one (.v (.sc (.string text))))),(2,.pl (.one (.ref 1 []))),(6,.pl (.one (.ref 2 []))),(7,.pl (.one (.ref 3 []))),(34,.pl (.one (.v (.sc (.int .i64 x34.1))))),(35,.pl (.one (.v (.sc (.int .i64 x35)))))],[(1,.box true [.list true 1 (List.map (rL true 1 (rK .i64)) []),.list true 4 (List.map (zA true) [])]),(2,.box true [.sc (.string s_9),.sc (.int .i64 s_10),.sc (.bool s_11)]),(3,.list true 1 (List.map (rL true 1 (rK .i64)) parents_1))]⟩) [0,2,6,7,34,35] [(1,1),(4,2),(5,3)] 4 ⟨_,_,_,_,_,rfl,rfl⟩ ?_
     rintro s' _ ⟨x35,s_9,s_10,s_11,parents_1,rfl,rfl⟩ y1'
     change Tl _ (yG x34 x35 s_9 s_10 s_11 parents_1) _ _; unfold yG
     refine go ?_
     refine sq ?_
     refine go ?_
     refine sp ?_ ?_
     ·refine go ?_
      refine sq ?_
      refine go ?_; intro x37
      refine go ?_; intro l_1 v'
      refine go ?_; intro x42
      refine go ?_
      exact bk [0,2,6,7,34,35] [(1,1),(2,2),(3,3)] 4 ⟨_,_,_,_,_,rfl,rfl⟩
     ·refine go ?_
      exact je [0,2,6,7] [(1,1),(2,2),(3,3)] 4 fun h=>⟨_,_,_,_,h,rfl⟩
    ·rintro e' ⟨s,s_1,s_2,parents,h,rfl⟩; refine tl h ?_; unfold zE0
     refine go ?_
     refine lf ?_ (fun a g=>zB5 a 3 g)
     refine go ?_
     refine jn (fun e'=>∃ s_3 s_4 s_5 list_,zE1 text parents s_3 s_4 s_5 list_=some r'∧e'=⟨82,1,5,[(0,.pl (.one (.v (.sc (.string text))))),(2,.pl (.one (.ref 1 []))),(6,.pl (.one (.ref 2 []))),(7,.pl (.one (.ref 3 []))),(9,.pl (.one (.ref 4 [])))],[(1,.box true [.list true 1 (List.map (rL true 1 (rK .i64)) []),.list true 4 (List.map (zA true) [])]),(2,.box true [.sc (.string s_3),.sc (.int .i64 s_4),.sc (.bool s_5)]),(3,.list true 1 (List.map (rL true 1 (rK .i64)) parents)),(4,.list true 3 (List.map (zB true) list_))]⟩) ?_ ?_
     ·refine go ?_; intro x44
      refine go ?_
      refine lp (fun s' e'=>∃ x45 s_6 s_7 s_8 list__1,s'=(x45,s_6,s_7,s_8,list__1)∧e'=⟨82,1,5,[(0,.pl (.one (.v (.sc (.string text))))),(2,.pl (.one (.ref 1 []))),(6,.pl (.one (.ref 2 []))),(7,.pl (.one (.ref 3 []))),(9,.pl (.one (.ref 4 []))),(44,.pl (.one (.v (.sc (.int .i64 x44.1))))),(45,.pl (.one (.v (.sc (.int .i64 x45)))))],[(1,.box true [.list true 1 (List.map (rL true 1 (rK .i64)) []),.list true 4 (List.map (zA true) [])]),(2,.box true [.sc (.string s_6),.sc (.int .i64 s_7),.sc (.bool s_8)]),(3,.list true 1 (List.map (rL true 1 (rK .i64)) parents)),(4,.list true 3 (List.map (zB true) list__1))]⟩) [0,2,6,7,9,44,45] [(1,1),(2,2),(3,3),(4,4)] 5 ⟨_,_,_,_,_,rfl,rfl⟩ ?_
      rintro s' _ ⟨x45,s_6,s_7,s_8,list__1,rfl,rfl⟩ y1'
      change Tl _ (xP x44 x45 s_6 s_7 s_8 list__1) _ _; unfold xP
      refine go ?_
      refine sq ?_
      refine go ?_
      refine sp ?_ ?_
      ·refine go ?_
       refine sq ?_
       refine go ?_
       refine sq ?_
       refine go ?_
       refine sp ?_ ?_
       ·refine go ?_
        exact je [0,2,6,7,9] [(1,1),(2,2),(3,3),(4,4)] 5 fun h=>⟨_,_,_,_,h,rfl⟩
       ·refine go ?_; intro x49
        refine go ?_
        refine l1 ?_
        refine go ?_; intro l v'
        refine go ?_
        exact bk [0,2,6,7,9,44,45] [(1,1),(2,2),(3,3),(4,4)] 5 ⟨_,_,_,_,_,rfl,rfl⟩
      ·refine go ?_
       exact je [0,2,6,7,9] [(1,1),(2,2),(3,3),(4,4)] 5 fun h=>⟨_,_,_,_,h,rfl⟩
     ·rintro e' ⟨s_3,s_4,s_5,list_,h,rfl⟩; refine tl h ?_; unfold zE1
      refine sq ?_
      refine go ?_; intro x55
      refine go ?_
      refine sp ?_ ?_
      ·exact gz
      ·refine go ?_; intro x61
       refine go ?_
       refine l1 ?_
       refine go ?_; intro x66
       refine go ?_
       refine sq ?_
       refine go ?_
       refine gc 3 (fun b_1 e'=>e'=⟨82,1,3,[(0,.pl (.one (.v (.sc (.string text))))),(2,.pl (.one (.ref 1 []))),(11,.pl (.one (.ref 2 []))),(12,.pl (.one (.v (.sc (.string x66.1))))),(74,.pl (.one (.v (.sc (.bool b_1)))))],[(1,.box true [.list true 1 (List.map (rL true 1 (rK .i64)) []),.list true 4 (List.map (zA true) [])]),(2,.box true [.list true 1 (List.map (rL true 1 (rK .i64)) x61.1.Parents),.list true 4 (List.map (zA true) x61.1.Bodies)])]⟩) ?_ ?_
       ·intro p
        refine qS ?_ ?_
        ·refine go ?_
         exact ge [0,2,11,12,74] [(1,1),(9,2)] 3 rfl
        ·refine go ?_
         exact ge [0,2,11,12,74] [(1,1),(9,2)] 3 rfl
       ·rintro b_1 _ rfl
        refine go ?_
        refine gc 4 (fun b_2 e'=>e'=⟨82,1,3,[(2,.pl (.one (.ref 1 []))),(11,.pl (.one (.ref 2 []))),(79,.pl (.one (.v (.sc (.bool b_2)))))],[(1,.box true [.list true 1 (List.map (rL true 1 (rK .i64)) []),.list true 4 (List.map (zA true) [])]),(2,.box true [.list true 1 (List.map (rL true 1 (rK .i64)) x61.1.Parents),.list true 4 (List.map (zA true) x61.1.Bodies)])]⟩) ?_ ?_
        ·intro p
         refine qS ?_ ?_
         ·refine go ?_
          exact ge [2,11,79] [(1,1),(2,2)] 3 rfl
         ·refine go ?_
          exact ge [2,11,79] [(1,1),(2,2)] 3 rfl
        ·rintro b_2 _ rfl
         refine go ?_
         refine sp ?_ ?_
         ·exact gz
         ·exact gz
instance W_laws_eqIntS:∀ a b,Wlk X (zR9 a b) 217 [] [.one (.list false 1 (List.map (rK .i64) a)),.one (.list false 1 (List.map (rK .i64) b))] (fun r'=>[.one (.sc (.bool r'))]) (fun r'=>[]):=fun a b=>by
 refine ws f217 26 [.tmp 4] (h2 t3 (h2 t39 qI)) ?_
 intro r'; unfold zR9
 refine go ?_
 refine sq ?_
 refine go ?_
 refine sp ?_ ?_
 ·exact gz
 ·refine go ?_
  refine jn (fun e'=>qF1=some r'∧e'=⟨26,2,2,[],[]⟩) ?_ ?_
  ·refine go ?_
   refine lp (fun i e'=>e'=⟨26,2,2,[(0,.pl (.one (.v (.list false 1 (List.map (rK .i64) a))))),(1,.pl (.one (.v (.list false 1 (List.map (rK .i64) b))))),(5,.pl (.one (.v (.sc (.int .i64 i)))))],[]⟩) [0,1,5] [] 2 rfl ?_
   rintro i _ rfl y1'
   change Tl _ (zF2 a b i) _ _; unfold zF2
   refine sq ?_
   refine go ?_
   refine sp ?_ ?_
   ·refine go ?_
    refine sq ?_
    refine go ?_
    refine rq ?_
    refine go ?_; intro x v'
    refine go ?_; intro x_1 v'
    refine go ?_
    refine sp ?_ ?_
    ·exact gz
    ·refine go ?_
     exact bk [0,1,5] [] 2 rfl
   ·refine go ?_
    exact je [] [] 2 fun h=>⟨h,rfl⟩
  ·rintro e' ⟨h,rfl⟩; refine tl h ?_; unfold qF1
   exact gz
instance W_laws_eqIntSS:∀ a b,Wlk X (zV2 a b) 125 [] [.one (.list false 1 (List.map (rL false 1 (rK .i64)) a)),.one (.list false 1 (List.map (rL false 1 (rK .i64)) b))] (fun r'=>[.one (.sc (.bool r'))]) (fun r'=>[]):=fun a b=>by
 refine ws f125 27 [.tmp 4] (h2 t3 (h2 t24 (h2 t39 (h2 jJ qI)))) ?_
 intro r'; unfold zV2
 refine go ?_
 refine sq ?_
 refine go ?_
 refine sp ?_ ?_
 ·exact gz
 ·refine go ?_
  refine jn (fun e'=>qB4=some r'∧e'=⟨27,2,2,[],[]⟩) ?_ ?_
  ·refine go ?_
   refine lp (fun i e'=>e'=⟨27,2,2,[(0,.pl (.one (.v (.list false 1 (List.map (rL false 1 (rK .i64)) a))))),(1,.pl (.one (.v (.list false 1 (List.map (rL false 1 (rK .i64)) b))))),(5,.pl (.one (.v (.sc (.int .i64 i)))))],[]⟩) [0,1,5] [] 2 rfl ?_
   rintro i _ rfl y1'
   change Tl _ (zC8 a b i) _ _; unfold zC8
   refine sq ?_
   refine go ?_
   refine sp ?_ ?_
   ·refine go ?_
    refine sq ?_
    refine go ?_
    refine rq ?_
    refine go ?_; intro x v'
    refine go ?_; intro x_1 v'
    refine go ?_; intro x25
    refine go ?_
    refine sp ?_ ?_
    ·exact gz
    ·refine go ?_
     exact bk [0,1,5] [] 2 rfl
   ·refine go ?_
    exact je [] [] 2 fun h=>⟨h,rfl⟩
  ·rintro e' ⟨h,rfl⟩; refine tl h ?_; unfold qB4
   exact gz
instance W_laws_eqBody:∀ a b,Wlk X (zX5 a b) 218 [] [.agg [.sc (.string a.Line),.sc (.int .i64 a.Ins),.sc (.int .i64 a.Ord),.list false 1 (List.map (rK .i64) a.Dels)],.agg [.sc (.string b.Line),.sc (.int .i64 b.Ins),.sc (.int .i64 b.Ord),.list false 1 (List.map (rK .i64) b.Dels)]] (fun r'=>[.one (.sc (.bool r'))]) (fun r'=>[]):=fun a b=>by
 refine ws f218 26 [.tmp 4] (h2 t3 (h2 t9 (h2 t39 (h2 t46 qI)))) ?_
 intro r'; unfold zX5
 refine go ?_
 refine sq ?_
 refine go ?_
 refine sp ?_ ?_
 ·exact gz
 ·refine go ?_
  refine sq ?_
  refine go ?_
  refine sp ?_ ?_
  ·exact gz
  ·refine go ?_
   refine sq ?_
   refine go ?_
   refine sp ?_ ?_
   ·exact gz
   ·refine go ?_
    refine sq ?_
    refine go ?_; intro x24
    refine go ?_
    refine sp ?_ ?_
    ·exact gz
    ·exact gz
instance W_laws_eqBodyS:∀ a b,Wlk X (zU4 a b) 126 [] [.one (.list false 4 (List.map (zA false) a)),.one (.list false 4 (List.map (zA false) b))] (fun r'=>[.one (.sc (.bool r'))]) (fun r'=>[]):=fun a b=>by
 refine ws f126 27 [.tmp 4] (h2 t3 (h2 t25 (h2 t46 (h2 zM qI)))) ?_
 intro r'; unfold zU4
 refine go ?_
 refine sq ?_
 refine go ?_
 refine sp ?_ ?_
 ·exact gz
 ·refine go ?_
  refine jn (fun e'=>qD1=some r'∧e'=⟨27,2,2,[],[]⟩) ?_ ?_
  ·refine go ?_
   refine lp (fun i e'=>e'=⟨27,2,2,[(0,.pl (.one (.v (.list false 4 (List.map (zA false) a))))),(1,.pl (.one (.v (.list false 4 (List.map (zA false) b))))),(5,.pl (.one (.v (.sc (.int .i64 i)))))],[]⟩) [0,1,5] [] 2 rfl ?_
   rintro i _ rfl y1'
   change Tl _ (zC9 a b i) _ _; unfold zC9
   refine sq ?_
   refine go ?_
   refine sp ?_ ?_
   ·refine go ?_
    refine sq ?_
    refine go ?_
    refine rq ?_
    refine go ?_; intro x v'
    refine go ?_; intro x_1 v'
    refine go ?_; intro x25
    refine go ?_
    refine sp ?_ ?_
    ·exact gz
    ·refine go ?_
     exact bk [0,1,5] [] 2 rfl
   ·refine go ?_
    exact je [] [] 2 fun h=>⟨h,rfl⟩
  ·rintro e' ⟨h,rfl⟩; refine tl h ?_; unfold qD1
   exact gz
instance W_laws_eqWeave:∀ a b,Wlk X (zG6 a b) 37 [] [.agg [.list false 1 (List.map (rL false 1 (rK .i64)) a.Parents),.list false 4 (List.map (zA false) a.Bodies)],.agg [.list false 1 (List.map (rL false 1 (rK .i64)) b.Parents),.list false 4 (List.map (zA false) b.Bodies)]] (fun r'=>[.one (.sc (.bool r'))]) (fun r'=>[]):=fun a b=>by
 refine ws f37 17 [.tmp 4] (h2 t24 (h2 t25 (h2 t27 (h2 jJ (h2 zM qI))))) ?_
 intro r'; unfold zG6
 refine go ?_
 refine sq ?_
 refine go ?_; intro x9
 refine go ?_
 refine sp ?_ ?_
 ·exact gz
 ·refine go ?_
  refine sq ?_
  refine go ?_; intro x15
  refine go ?_
  refine sp ?_ ?_
  ·exact gz
  ·exact gz
instance W_laws_markIntS:∀ a k,Wlk X (zI3 a k) 169 [0] [.one (.list true 1 (List.map (rK .i64) a)),.one (.sc (.int .i64 k))] (fun r'=>[.one (.sc (.int .i64 r'.1))]) (fun r'=>[(0,.list true 1 (List.map (rK .i64) r'.2))]):=fun a k=>by
 refine ws f169 19 [.tmp 4] (h2 t3 (h2 t39 qI)) ?_
 intro r'; unfold zI3
 refine go ?_
 refine jn (fun e'=>∃ k_1 a_1,zZ7 k_1 a_1=some r'∧e'=⟨19,2,2,[(1,.pl (.one (.v (.sc (.int .i64 k_1)))))],[(0,.list true 1 (List.map (rK .i64) a_1))]⟩) ?_ ?_
 ·refine go ?_
  refine lp (fun s' e'=>∃ k_2 i a_2,s'=(k_2,i,a_2)∧e'=⟨19,2,2,[(0,.pl (.one (.ref 0 []))),(1,.pl (.one (.v (.sc (.int .i64 k_2))))),(5,.pl (.one (.v (.sc (.int .i64 i)))))],[(0,.list true 1 (List.map (rK .i64) a_2))]⟩) [0,1,5] [(0,0)] 2 ⟨_,_,_,rfl,rfl⟩ ?_
  rintro s' _ ⟨k_2,i,a_2,rfl,rfl⟩ y1'
  change Tl _ (wC k_2 i a_2) _ _; unfold wC
  refine sq ?_
  refine go ?_
  refine sp ?_ ?_
  ·refine go ?_
   refine sq ?_
   refine go ?_; intro x v'
   refine go ?_
   exact bk [0,1,5] [(0,0)] 2 ⟨_,_,_,rfl,rfl⟩
  ·refine go ?_
   exact je [1] [(0,0)] 2 fun h=>⟨_,_,h,rfl⟩
 ·rintro e' ⟨k_1,a_1,h,rfl⟩; refine tl h ?_; unfold zZ7
  exact gz
instance W_laws_markIntSS:∀ a k,Wlk X (zO5 a k) 127 [0] [.one (.list true 1 (List.map (rL true 1 (rK .i64)) a)),.one (.sc (.int .i64 k))] (fun r'=>[.one (.sc (.int .i64 r'.1))]) (fun r'=>[(0,.list true 1 (List.map (rL true 1 (rK .i64)) r'.2))]):=fun a k=>by
 refine ws f127 19 [.tmp 4] (h2 t3 (h2 t24 (h2 t39 (h2 jJ qI)))) ?_
 intro r'; unfold zO5
 refine go ?_
 refine jn (fun e'=>∃ k_1 a_1,zX4 k_1 a_1=some r'∧e'=⟨19,2,2,[(1,.pl (.one (.v (.sc (.int .i64 k_1)))))],[(0,.list true 1 (List.map (rL true 1 (rK .i64)) a_1))]⟩) ?_ ?_
 ·refine go ?_
  refine lp (fun s' e'=>∃ k_2 i a_2,s'=(k_2,i,a_2)∧e'=⟨19,2,2,[(0,.pl (.one (.ref 0 []))),(1,.pl (.one (.v (.sc (.int .i64 k_2))))),(5,.pl (.one (.v (.sc (.int .i64 i)))))],[(0,.list true 1 (List.map (rL true 1 (rK .i64)) a_2))]⟩) [0,1,5] [(0,0)] 2 ⟨_,_,_,rfl,rfl⟩ ?_
  rintro s' _ ⟨k_2,i,a_2,rfl,rfl⟩ y1'
  change Tl _ (vD k_2 i a_2) _ _; unfold vD
  refine sq ?_
  refine go ?_
  refine sp ?_ ?_
  ·refine go ?_
   refine sq ?_
   refine go ?_; intro x v'
   refine go ?_; intro x17
   refine go ?_
   exact bk [0,1,5] [(0,0)] 2 ⟨_,_,_,rfl,rfl⟩
  ·refine go ?_
   exact je [1] [(0,0)] 2 fun h=>⟨_,_,h,rfl⟩
 ·rintro e' ⟨k_1,a_1,h,rfl⟩; refine tl h ?_; unfold zX4
  exact gz
instance W_laws_markText:∀ k,Wlk X (uN k) 170 [] [.one (.sc (.int .i64 k))] (fun r'=>[.one (.sc (.string r'))]) (fun r'=>[]):=fun k=>by
 refine ws f170 20 [.tmp 2] (h2 t3 (h2 t5 (h2 t9 t22))) ?_
 intro r'; unfold uN
 refine go ?_
 refine sq ?_
 refine go ?_
 refine sp ?_ ?_
 ·exact gz
 ·refine go ?_
  refine jn (fun e'=>∃ out_,zQ5 out_=some r'∧e'=⟨20,1,1,[(3,.pl (.one (.v (.sc (.string out_)))))],[]⟩) ?_ ?_
  ·refine go ?_
   refine lp (fun s' e'=>∃ k_1 out__1,s'=(k_1,out__1)∧e'=⟨20,1,1,[(0,.pl (.one (.v (.sc (.int .i64 k_1))))),(3,.pl (.one (.v (.sc (.string out__1)))))],[]⟩) [0,3] [] 1 ⟨_,_,rfl,rfl⟩ ?_
   rintro s' _ ⟨k_1,out__1,rfl,rfl⟩ y1'
   change Tl _ (zH2 k_1 out__1) _ _; unfold zH2
   refine sq ?_
   refine go ?_
   refine sp ?_ ?_
   ·refine go ?_; intro t_1 v'
    refine fk (show zM8 [[V.sc (.int .u8 (wk .u8 (wk .i64 (48+(k_1.tmod 10)))))]]=some [(wk .u8 (wk .i64 (48+(k_1.tmod 10))))] from qK [(wk .u8 (wk .i64 (48+(k_1.tmod 10))))]) ?_
    refine go ?_
    exact bk [0,3] [] 1 ⟨_,_,rfl,rfl⟩
   ·refine go ?_
    exact je [3] [] 1 fun h=>⟨_,h,rfl⟩
  ·rintro e' ⟨out_,h,rfl⟩; refine tl h ?_; unfold zQ5
   refine go ?_; intro t v'
   exact gz
instance W_laws_markBodyS:∀ a k,Wlk X (zN2 a k) 128 [0] [.one (.list true 4 (List.map (zA true) a)),.one (.sc (.int .i64 k))] (fun r'=>[.one (.sc (.int .i64 r'.1))]) (fun r'=>[(0,.list true 4 (List.map (zA true) r'.2))]):=fun a k=>by
 refine ws f128 42 [.tmp 4] (h2 t3 (h2 t9 (h2 t25 (h2 t39 (h2 t46 (h2 zM qI)))))) ?_
 intro r'; unfold zN2
 refine go ?_
 refine jn (fun e'=>∃ k_1 a_1,zX3 k_1 a_1=some r'∧e'=⟨42,2,2,[(1,.pl (.one (.v (.sc (.int .i64 k_1)))))],[(0,.list true 4 (List.map (zA true) a_1))]⟩) ?_ ?_
 ·refine go ?_
  refine lp (fun s' e'=>∃ k_2 i a_2,s'=(k_2,i,a_2)∧e'=⟨42,2,2,[(0,.pl (.one (.ref 0 []))),(1,.pl (.one (.v (.sc (.int .i64 k_2))))),(5,.pl (.one (.v (.sc (.int .i64 i)))))],[(0,.list true 4 (List.map (zA true) a_2))]⟩) [0,1,5] [(0,0)] 2 ⟨_,_,_,rfl,rfl⟩ ?_
  rintro s' _ ⟨k_2,i,a_2,rfl,rfl⟩ y1'
  change Tl _ (vB k_2 i a_2) _ _; unfold vB
  refine sq ?_
  refine go ?_
  refine sp ?_ ?_
  ·refine go ?_
   refine sq ?_
   refine go ?_; intro x15
   refine go ?_; intro x v'
   refine go ?_; intro x_1 v'
   refine go ?_; intro x_2 v'
   refine go ?_; intro x_3 v'
   refine go ?_; intro x40
   refine go ?_
   exact bk [0,1,5] [(0,0)] 2 ⟨_,_,_,rfl,rfl⟩
  ·refine go ?_
   exact je [1] [(0,0)] 2 fun h=>⟨_,_,h,rfl⟩
 ·rintro e' ⟨k_1,a_1,h,rfl⟩; refine tl h ?_; unfold zX3
  exact gz
section
open Go.Proofs Go.RowKit Go.Lib Go
set_option maxHeartbeats 8000000 in
theorem markRun38:MarkRaw Tryz.prog 38 127 128 27:=⟨⟨_,Tryz.func38,rfl,rfl⟩,fun w u0 u1 k Q h1=>by
 go_enter Tryz.func38,Tryz.ntmps38
 go_wp2_with fail
 refine h1.mono ?_
 rintro e w1 ⟨k1,rfl,hc,h2⟩
 go_wp2_with fail
 refine h2.mono ?_
 rintro e w2 ⟨k2,rfl,hq⟩
 go_wp2
 go_ret
 exact ⟨k2,rfl,hq⟩⟩
end
instance W_laws_markWeave2:∀ a k,Wlk X (zJ3 a k) 38 [0,1] [.agg [.list true 1 (List.map (rL true 1 (rK .i64)) a.Parents),.list true 4 (List.map (zA true) a.Bodies)],.one (.sc (.int .i64 k))] (fun r'=>[.one (.sc (.int .i64 r'.1))]) (fun r'=>[(0,.list true 1 (List.map (rL true 1 (rK .i64)) r'.2.1)),(1,.list true 4 (List.map (zA true) r'.2.2))]):=fun a k=>⟨fun r' h=>by
 unfold zJ3 at h
 obtain ⟨x,hx,h⟩:=zbi h
 obtain ⟨y,hy,h⟩:=zbi h
 obtain rfl:=zso h
 exact mark_fn markRun38 (by simp only [V.noBor,Bool.true_and]; exact yZ (nb_rL (fun _=>rfl)) _) (by simp only [V.noBor,Bool.true_and]; exact yZ (fun x=>by simp only [zA,zT,V.noBor,Bool.and_true,Bool.true_and,(show ∀ l:List Int,zP (List.map (rK .i64) l)=true from yZ (fun _=>rfl))]) _) (by simp only [V.noBor,Bool.true_and]; exact yZ (nb_rL (fun _=>rfl)) _) (by simp only [V.noBor,Bool.true_and]; exact yZ (fun x=>by simp only [zA,zT,V.noBor,Bool.and_true,Bool.true_and,(show ∀ l:List Int,zP (List.map (rK .i64) l)=true from yZ (fun _=>rfl))]) _) (Wlk.w (X:=X) x hx) (Wlk.w (X:=X) y hy)⟩
instance W_laws_heldIntS:∀ a k,Wlk X (zJ0 a k) 219 [] [.one (.list false 1 (List.map (rK .i64) a)),.one (.sc (.int .i64 k))] (fun r'=>[.one (.sc (.int .i64 r'))]) (fun r'=>[]):=fun a k=>by
 refine ws f219 21 [.tmp 4] (h2 t3 (h2 t39 qI)) ?_
 intro r'; unfold zJ0
 refine go ?_
 refine jn (fun e'=>∃ k_1,zZ9 k_1=some r'∧e'=⟨21,2,2,[(1,.pl (.one (.v (.sc (.int .i64 k_1)))))],[]⟩) ?_ ?_
 ·refine go ?_
  refine lp (fun s' e'=>∃ k_2 i,s'=(k_2,i)∧e'=⟨21,2,2,[(0,.pl (.one (.v (.list false 1 (List.map (rK .i64) a))))),(1,.pl (.one (.v (.sc (.int .i64 k_2))))),(5,.pl (.one (.v (.sc (.int .i64 i)))))],[]⟩) [0,1,5] [] 2 ⟨_,_,rfl,rfl⟩ ?_
  rintro s' _ ⟨k_2,i,rfl,rfl⟩ y1'
  change Tl _ (vV a k_2 i) _ _; unfold vV
  refine sq ?_
  refine go ?_
  refine sp ?_ ?_
  ·refine go ?_
   refine sq ?_
   refine go ?_
   refine sq ?_
   refine go ?_; intro x v'
   refine go ?_
   refine sp ?_ ?_
   ·exact gz
   ·refine go ?_
    exact bk [0,1,5] [] 2 ⟨_,_,rfl,rfl⟩
  ·refine go ?_
   exact je [1] [] 2 fun h=>⟨_,h,rfl⟩
 ·rintro e' ⟨k_1,h,rfl⟩; refine tl h ?_; unfold zZ9
  exact gz
instance W_laws_heldIntSS:∀ a k,Wlk X (zO7 a k) 129 [] [.one (.list false 1 (List.map (rL false 1 (rK .i64)) a)),.one (.sc (.int .i64 k))] (fun r'=>[.one (.sc (.int .i64 r'))]) (fun r'=>[]):=fun a k=>by
 refine ws f129 21 [.tmp 4] (h2 t3 (h2 t24 (h2 t39 (h2 jJ qI)))) ?_
 intro r'; unfold zO7
 refine go ?_
 refine jn (fun e'=>∃ k_1,zX2 k_1=some r'∧e'=⟨21,2,2,[(1,.pl (.one (.v (.sc (.int .i64 k_1)))))],[]⟩) ?_ ?_
 ·refine go ?_
  refine lp (fun s' e'=>∃ k_2 i,s'=(k_2,i)∧e'=⟨21,2,2,[(0,.pl (.one (.v (.list false 1 (List.map (rL false 1 (rK .i64)) a))))),(1,.pl (.one (.v (.sc (.int .i64 k_2))))),(5,.pl (.one (.v (.sc (.int .i64 i)))))],[]⟩) [0,1,5] [] 2 ⟨_,_,rfl,rfl⟩ ?_
  rintro s' _ ⟨k_2,i,rfl,rfl⟩ y1'
  change Tl _ (vG a k_2 i) _ _; unfold vG
  refine sq ?_
  refine go ?_
  refine sp ?_ ?_
  ·refine go ?_
   refine sq ?_
   refine go ?_; intro x v'
   refine go ?_; intro x17
   refine go ?_
   refine sp ?_ ?_
   ·exact gz
   ·refine go ?_
    exact bk [0,1,5] [] 2 ⟨_,_,rfl,rfl⟩
  ·refine go ?_
   exact je [1] [] 2 fun h=>⟨_,h,rfl⟩
 ·rintro e' ⟨k_1,h,rfl⟩; refine tl h ?_; unfold zX2
  exact gz
instance W_laws_heldBodyS:∀ a k,Wlk X (zO0 a k) 130 [] [.one (.list false 4 (List.map (zA false) a)),.one (.sc (.int .i64 k))] (fun r'=>[.one (.sc (.int .i64 r'))]) (fun r'=>[]):=fun a k=>by
 refine ws f130 50 [.tmp 4] (h2 t3 (h2 t9 (h2 t25 (h2 t39 (h2 t46 (h2 zM qI)))))) ?_
 intro r'; unfold zO0
 refine go ?_
 refine jn (fun e'=>∃ k_1,zW8 k_1=some r'∧e'=⟨50,2,2,[(1,.pl (.one (.v (.sc (.int .i64 k_1)))))],[]⟩) ?_ ?_
 ·refine go ?_
  refine lp (fun s' e'=>∃ k_2 i,s'=(k_2,i)∧e'=⟨50,2,2,[(0,.pl (.one (.v (.list false 4 (List.map (zA false) a))))),(1,.pl (.one (.v (.sc (.int .i64 k_2))))),(5,.pl (.one (.v (.sc (.int .i64 i)))))],[]⟩) [0,1,5] [] 2 ⟨_,_,rfl,rfl⟩ ?_
  rintro s' _ ⟨k_2,i,rfl,rfl⟩ y1'
  change Tl _ (vF a k_2 i) _ _; unfold vF
  refine sq ?_
  refine go ?_
  refine sp ?_ ?_
  ·refine go ?_
   refine sq ?_
   refine go ?_
   refine sq ?_
   refine go ?_
   refine rq ?_
   refine go ?_; intro x v'
   refine go ?_; intro x18
   refine go ?_
   refine sp ?_ ?_
   ·exact gz
   ·refine go ?_
    refine sq ?_
    refine go ?_
    refine sp ?_ ?_
    ·exact gz
    ·refine go ?_
     refine sq ?_
     refine go ?_
     refine sp ?_ ?_
     ·exact gz
     ·refine go ?_; intro x46
      refine go ?_
      refine sp ?_ ?_
      ·exact gz
      ·refine go ?_
       exact bk [0,1,5] [] 2 ⟨_,_,rfl,rfl⟩
  ·refine go ?_
   exact je [1] [] 2 fun h=>⟨_,h,rfl⟩
 ·rintro e' ⟨k_1,h,rfl⟩; refine tl h ?_; unfold zW8
  exact gz
instance W_laws_heldWeave:∀ a k,Wlk X (zF3 a k) 39 [] [.agg [.list false 1 (List.map (rL false 1 (rK .i64)) a.Parents),.list false 4 (List.map (zA false) a.Bodies)],.one (.sc (.int .i64 k))] (fun r'=>[.one (.sc (.int .i64 r'))]) (fun r'=>[]):=fun a k=>by
 refine ws f39 18 [.tmp 4] (h2 t3 (h2 t24 (h2 t25 (h2 t27 (h2 jJ (h2 zM qI)))))) ?_
 intro r'; unfold zF3
 refine go ?_; intro x8
 refine go ?_
 refine sq ?_
 refine go ?_
 refine sp ?_ ?_
 ·exact gz
 ·refine go ?_; intro x14
  refine go ?_
  refine sq ?_
  refine go ?_
  refine sp ?_ ?_
  ·exact gz
  ·exact gz
instance W_laws_FnExactReadWeave:∀ aText,Wlk X (laws_FnExactReadWeave aText) 6 [] [.one (.sc (.string aText))] (fun r'=>[.one (.sc (.bool r'))]) (fun r'=>[]):=fun aText=>by
 refine ws f6 66 [.tmp 2] (h2 t3 (h2 t9 (h2 t27 (h2 jJ (h2 zM qI))))) ?_
 intro r'; unfold laws_FnExactReadWeave
 refine go ?_
 refine sq ?_
 refine go ?_
 refine sp ?_ ?_
 ·exact gz
 ·refine go ?_; intro x16
  refine go ?_
  refine l1 ?_
  refine go ?_; intro x21
  refine go ?_
  refine l1 ?_
  refine go ?_
  refine sq ?_
  refine go ?_; intro x26
  refine go ?_
  refine gc 4 (fun b e'=>e'=⟨66,1,3,[(0,.pl (.one (.v (.sc (.string aText))))),(3,.pl (.one (.ref 1 []))),(4,.pl (.one (.v (.sc (.int .i64 x16.2))))),(5,.pl (.one (.ref 2 []))),(32,.pl (.one (.v (.sc (.bool b)))))],[(1,.box true [.list true 1 (List.map (rL true 1 (rK .i64)) x16.1.Parents),.list true 4 (List.map (zA true) x16.1.Bodies)]),(2,.box true [.list true 1 (List.map (rL true 1 (rK .i64)) x21.1.Parents),.list true 4 (List.map (zA true) x21.1.Bodies)])]⟩) ?_ ?_
  ·intro p
   refine qS ?_ ?_
   ·refine go ?_
    exact ge [0,3,4,5,32] [(4,1),(8,2)] 3 rfl
   ·refine go ?_
    exact ge [0,3,4,5,32] [(4,1),(8,2)] 3 rfl
  ·rintro b _ rfl
   refine go ?_
   refine sp ?_ ?_
   ·exact gz
   ·refine go ?_; intro x35
    refine go ?_; intro x38
    refine go ?_
    refine sq ?_
    refine go ?_
    refine sp ?_ ?_
    ·exact gz
    ·refine go ?_
     refine sq ?_
     refine go ?_
     refine sp ?_ ?_
     ·exact gz
     ·refine go ?_; intro x46
      refine go ?_
      refine l1 ?_
      refine go ?_
      refine sq ?_
      refine go ?_; intro x51
      refine go ?_
      refine gc 4 (fun b_1 e'=>e'=⟨66,1,2,[(5,.pl (.one (.ref 1 []))),(7,.pl (.one (.v (.sc (.int .i64 x35.1))))),(57,.pl (.one (.v (.sc (.bool b_1)))))],[(1,.box true [.list true 1 (List.map (rL true 1 (rK .i64)) x35.2.1),.list true 4 (List.map (zA true) x35.2.2)])]⟩) ?_ ?_
      ·intro p
       refine qS ?_ ?_
       ·refine go ?_
        exact ge [5,7,57] [(2,1)] 2 rfl
       ·refine go ?_
        exact ge [5,7,57] [(2,1)] 2 rfl
      ·rintro b_1 _ rfl
       refine go ?_
       refine sp ?_ ?_
       ·exact gz
       ·refine go ?_; intro x60
        refine go ?_
        refine sq ?_
        refine go ?_
        refine sp ?_ ?_
        ·exact gz
        ·refine go ?_
         refine sq ?_
         refine go ?_
         refine sp ?_ ?_
         ·exact gz
         ·exact gz
end Go.TV.KFnExactReadWeave
