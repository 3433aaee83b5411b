/- The plain laws. -/
import Derived.Test.YtmoglghkjfjalaaGreatKFnStatsP0
set_option linter.unusedVariables false
set_option linter.unusedSimpArgs false
set_option maxHeartbeats 8000000
set_option maxRecDepth 100000
namespace Go.TV.F
open Go.TV
theorem inv_loop {σ ρ:Type} {body:Int×σ→Option ((Int×σ)⊕ρ)} (n:Nat) (I:Nat→σ→Prop) (Q:ρ→Prop) (s0:σ) (h0:I 0 s0)
  (hs:∀ (k:Nat) (s:σ),k < n→I k s→(∃ s',body ((k:Int),s)=some (.inl (((k+1:Nat):Int),s'))∧I (k+1) s')∨∃ r,body ((k:Int),s)=some (.inr r)∧Q r)
  (he:∀ s,I n s→∃ r,body ((n:Int),s)=some (.inr r)∧Q r):∃ r,zG body (0,s0)=some r∧Q r:=by
 have key:∀ (m k:Nat) (s:σ),k+m=n→I k s→∃ r,zG body ((k:Int),s)=some r∧Q r:=by
  intro m
  induction m with
  | zero =>
   intro k s hk hI
   have:k=n:=by omega
   subst this
   obtain ⟨r,h1,h2⟩:=he s hI
   refine ⟨r,?_,h2⟩
   rw [qE,h1]
   rfl
  | succ m ih =>
   intro k s hk hI
   rcases hs k s (by omega) hI with ⟨s',h1,h2⟩ | ⟨r,h1,h2⟩
   ·obtain ⟨r,h3,h4⟩:=ih (k+1) s' (by omega) h2
    refine ⟨r,?_,h4⟩
    rw [qE,h1]
    exact h3
   ·refine ⟨r,?_,h2⟩
    rw [qE,h1]
    rfl
 exact key n 0 s0 (by omega) h0
def bW:T_impl_Weave:=⟨[],[]⟩
theorem cm_name {s:T_impl_Store} (h:qW s=true) {p:Int} (p1:p.toNat < s.Commits.length) {n:T_impl_Name} (hn:n ∈ (s.Commits.getD p.toNat bC).Names) :
  0≤n.Id∧n.Id.toNat < s.Files.length∧0≤n.Version∧n.Version < ((s.Files.getD n.Id.toNat bW).Parents.length:Int)∧pathB n.Path=true:=by
 have hc:=(storeB_cs h).2
 have hm:s.Commits.getD p.toNat bC ∈ s.Commits:=by rw [zU p1]; exact List.getElem_mem p1
 unfold commitsB at hc
 simp only [Bool.and_eq_true,List.all_eq_true] at hc
 have hb:=hc.2 _ hm
 unfold commitB at hb
 simp only [Bool.and_eq_true,List.all_eq_true] at hb
 obtain ⟨a1,a2,a3,a4,a5⟩:=namesB_id hb.1.2 hn
 have hi:=hb.2 n hn
 unfold nameIn at hi
 simp only [Bool.not_eq_true',Bool.or_eq_false_iff,decide_eq_false_iff_not] at hi
 obtain ⟨h1,h2⟩:=hi
 have hl:(sizesF s).length=s.Files.length:=by unfold sizesF; simp
 have hk:n.Id.toNat < s.Files.length:=by omega
 refine ⟨a1,hk,a3,?_,a5⟩
 have e:(sizesF s).getD n.Id.toNat 0=((s.Files.getD n.Id.toNat bW).Parents.length:Int):=by
  rw [zU (by omega),zU hk]
  unfold sizesF
  rw [List.getElem_map]
 rw [e] at h2
 omega
theorem graphsS_eq {s:T_impl_Store} (hf:s.Files.length≤2000000):spec_l15Graphs s=some (s.Files.map fun w=>w.Parents):=by
 unfold spec_l15Graphs
 rw [map_loop (body:=fun (s':Int×(List (List (List Int))))=>spec_l15Graphs_l1 s s'.1 s'.2) s.Files (fun w=>w.Parents) id (by omega) (fun k x out hx hk ho=>by
  simp only [spec_l15Graphs_l1]
  rw [ifT (by simpa using hk),zF,hx,Option.bind_some,zN (by simp; omega),Option.bind_some,wkS k (by omega)]) (fun out=>by
  simp only [spec_l15Graphs_l1]
  rw [ifF (by simp)]
  rfl)]
 rfl
theorem putN_len (n:T_impl_Name):∀ l:List T_impl_Name,(putN n l).length≤l.length+1
 | []=>by simp [putN]
 | x :: l=>by
  have ih:=putN_len n l
  have hf:=List.length_filter_le (fun y:T_impl_Name=>!(y.Id == n.Id)) l
  unfold putN
  split
  ·simp only [List.length_cons]; omega
  ·split
   ·simp only [List.length_cons]; omega
   ·simp only [List.length_cons]; omega
def nmIn (s:T_impl_Store) (n:T_impl_Name):Prop:=0≤n.Id∧n.Id.toNat < s.Files.length∧0≤n.Version∧n.Version < ((s.Files.getD n.Id.toNat bW).Parents.length:Int)
structure BaseOk (s:T_impl_Store) (names:List T_impl_Name) (opn:List Int):Prop where
 n:NmOk names
 i:∀ n ∈ names,nmIn s n
 o:∀ x ∈ opn,0≤x∧x.toNat < s.Files.length
 ln:names.length≤12
 lo:opn.length≤1000
theorem base_ok {s:T_impl_Store} (h:qW s=true) {ps:List Int} (hp:∀ p ∈ ps,0≤p∧p.toNat < s.Commits.length) (hl:ps.length≤4) :
  ∃ names opn code,spec_l14Base s.Commits (s.Files.map fun w=>w.Parents) ps=some (names,opn,code)∧BaseOk s names opn:=by
 have hR:=(storeB_cs h).1
 have h12:=storeB_len h
 have hgl:(s.Files.map fun w=>w.Parents).length=s.Files.length:=by simp
 have hpl:∀ id:Int,(ofN s.Commits ps id).length≤ps.length:=fun id=>ofN_le
 have hloop:=inv_loop (body:=fun (s':Int×(List T_impl_Name)×(List Int))=>spec_l14Base_l1 s.Commits (s.Files.map fun w=>w.Parents) ps s'.1 s'.2.1 s'.2.2) s.Files.length
  (fun k st=>NmOk st.1∧(∀ n ∈ st.1,nmIn s n∧n.Id < k)∧(∀ x ∈ st.2,0≤x∧x.toNat < s.Files.length)∧st.1.length≤k∧st.2.length≤4 * k)
  (fun r=>match r with | .inl c=>BaseOk s c.1 c.2.1 | .inr q=>BaseOk s q.1 q.2) ([],[]) ⟨NmOk.nil,fun n hn=>(by simp at hn),fun x hx=>(by simp at hx),by simp,by simp⟩ (fun k st hk hI=>by
  obtain ⟨names,opn⟩:=st
  obtain ⟨i1,i2,i3,i4,i5⟩:=hI
  simp only at i1 i2 i3 i4 i5
  have hpk:=hpl (k:Int)
  simp only [spec_l14Base_l1]
  rw [ifT (by simpa using hk),of_eq hR hp hl,Option.bind_some]
  by_cases q:ofN s.Commits ps k=[]
  ·left
   refine ⟨(names,opn),?_,i1,fun n hn=>⟨(i2 n hn).1,by have:=(i2 n hn).2; omega⟩,i3,by simp only; omega,by simp only; omega⟩
   rw [q,ifT (by rfl)]
   unfold spec_l14Base_j2
   rw [wkS k (by omega)]
  ·have hne:0 < (ofN s.Commits ps k).length:=List.length_pos_iff.2 q
   rw [ifF (by simp; omega),wk64 (x:=(ps.length:Int) - 1) (by omega) (by omega),pathOf_eq hR hp (by omega),Option.bind_some]
   obtain ⟨p,hpp,m,hm,e1,e2⟩:=pathOf_in q
   have hpb:=(cm_name h (hp p hpp).2 hm).2.2.2.2
   rw [e2] at hpb
   have hver:∀ v ∈ ofN s.Commits ps k,0≤v∧v < ((s.Files.getD k bW).Parents.length:Int):=fun v hv=>by
    obtain ⟨p,hpp,n,hn,e3,e4⟩:=mem_ofN hv
    have:=cm_name h (hp p hpp).2 hn
    rw [e3,e4] at this
    simpa using ⟨this.2.2.1,this.2.2.2.1⟩
   have hW:WR (s.Files.getD k bW):=by rw [zU hk]; exact storeB_file h (List.getElem_mem hk)
   unfold spec_l14Base_j3
   rw [wk64 (by omega) (by omega)]
   obtain ⟨x,hx⟩:∃ x,(ofN s.Commits ps k)[(ofN s.Commits ps k).length - 1]? = some x:=⟨_,List.getElem?_eq_getElem (by omega)⟩
   have hxv:=hver x (List.mem_of_getElem? hx)
   have e5:((ofN s.Commits ps k).length:Int) - 1=(((ofN s.Commits ps k).length - 1:Nat):Int):=by omega
   have e6:(s.Files.map fun w=>w.Parents)[k]? = some (s.Files.getD k bW).Parents:=by rw [List.getElem?_map,zU hk,List.getElem?_eq_getElem hk]; rfl
   rw [e5,zF,hx,Option.bind_some,zF,e6,Option.bind_some,l05Set_eq hW.g (by simp),Option.bind_some]
   have hsl:=setL_len (s.Files.getD k bW).Parents [x]
   obtain ⟨o2,g1,g2,g3⟩:=inv_loop (body:=fun (s':Int×(List Int))=>spec_l14Base_l2 k (ofN s.Commits ps k) (setL (s.Files.getD k bW).Parents [x]) s'.1 s'.2) (ofN s.Commits ps k).length
    (fun j o=>(∀ x ∈ o,0≤x∧x.toNat < s.Files.length)∧o.length≤opn.length+j) (fun o=>(∀ x ∈ o,0≤x∧x.toNat < s.Files.length)∧o.length≤opn.length+(ofN s.Commits ps k).length) opn ⟨i3,by omega⟩ (fun j o hj hI=>by
    left
    have hy:(ofN s.Commits ps k)[j]? = some (ofN s.Commits ps k)[j]:=List.getElem?_eq_getElem hj
    obtain ⟨v0,v1⟩:=hver _ (List.getElem_mem hj)
    have hf:=List.length_filter_le (fun y=>y != (k:Int)) o
    simp only [spec_l14Base_l2]
    rw [ifT (by simpa using hj),zF,hy,Option.bind_some,geti_D (d:=false) v0 (by omega),Option.bind_some,l07Without_eq (by omega),wkS j (by omega)]
    cases hb:(setL (s.Files.getD k bW).Parents [x]).getD ((ofN s.Commits ps k)[j]).toNat false with
    | true=>exact ⟨o,by rw [ifF (by rfl)],hI.1,by omega⟩
    | false =>
     refine ⟨withN (o.filter fun y=>y != (k:Int)) k,?_,fun y hy=>?_,?_⟩
     ·rw [ifT (by rfl),Option.bind_some,with_eq (by omega),Option.bind_some]
     ·rcases mem_withN hy with rfl | hy
      ·exact ⟨by omega,by omega⟩
      ·exact hI.1 y (List.mem_filter.1 hy).1
     ·have:=withN_le (k:Int) (o.filter fun y=>y != (k:Int))
      omega) (fun o hI=>⟨o,by
    simp only [spec_l14Base_l2]
    rw [ifF (by simp)],hI⟩)
   rw [g1,Option.bind_some]
   unfold spec_l14Base_j4
   rw [pAtS_eq (by omega),Option.bind_some]
   by_cases q3:pathN names (pathOf s.Commits ps k) < 0
   ·left
    refine ⟨(putN ⟨pathOf s.Commits ps k,k,x⟩ names,o2),?_,i1.put hpb (fun y hy _=>pathN_none q3 y hy),fun n hn=>?_,g2,?_,?_⟩
    ·rw [ifF (decide_eq_false (by omega)),put_eq (by omega),Option.bind_some]
     unfold spec_l14Base_j2
     rw [wkS k (by omega)]
    ·rcases mem_putN.1 hn with rfl | ⟨hn,_⟩
     ·exact ⟨⟨by simp only; omega,by simpa using hk,hxv.1,by simpa using hxv.2⟩,by simp only; omega⟩
     ·exact ⟨(i2 n hn).1,by have:=(i2 n hn).2; omega⟩
    ·have:=putN_len ⟨pathOf s.Commits ps k,k,x⟩ names
     simp only
     omega
    ·simp only
     omega
   ·right
    refine ⟨.inl ([],[],3),?_,NmOk.nil,fun n hn=>(by simp at hn),fun x hx=>(by simp at hx),by simp,by simp⟩
    rw [ifT (decide_eq_true (by omega))]) (fun st hI=>by
  obtain ⟨names,opn⟩:=st
  obtain ⟨i1,i2,i3,i4,i5⟩:=hI
  simp only at i1 i2 i3 i4 i5
  refine ⟨.inr (names,opn),?_,i1,fun n hn=>(i2 n hn).1,i3,by simp only; omega,by simp only; omega⟩
  simp only [spec_l14Base_l1]
  rw [ifF (by simp)])
 obtain ⟨r,h1,h2⟩:=hloop
 unfold spec_l14Base
 rw [h1,Option.bind_some]
 cases r with
 | inl c=>exact ⟨c.1,c.2.1,c.2.2,rfl,h2⟩
 | inr q=>exact ⟨q.1,q.2,0,rfl,h2⟩
end Go.TV.F
namespace Go.TV.F
open Go.TV
def nmPl (s:T_impl_Store) (files:Int) (n:T_impl_Name):Prop:=0≤n.Id∧n.Id < files∧(n.Id < (s.Files.length:Int)→0≤n.Version∧n.Version < ((s.Files.getD n.Id.toNat bW).Parents.length:Int))∧(¬n.Id < (s.Files.length:Int)→n.Version=0)
structure PlanOk (s:T_impl_Store) (chs:List T_impl_Change) (k:Nat) (names:List T_impl_Name) (lines:List Int) (files:Int):Prop where
 n:NmOk names
 i:∀ n ∈ names,nmPl s files n
 ll:(lines.length:Int)=files
 f0:(s.Files.length:Int)≤files
 f1:files≤s.Files.length+k
 le:∀ x ∈ lines,x < 0∨(0≤x∧∃ c,chs[x.toNat]? = some c∧c.Kind≤2)
 nw:∀ (j:Nat) (hj:j < lines.length),s.Files.length≤j→0≤lines[j]
 ln:names.length≤12+k
theorem NmOk.sub {l m:List T_impl_Name} (h:NmOk l) (hs:m.Sublist l):NmOk m:=⟨h.s.sublist hs,h.i.sublist hs,fun n hn=>h.p n (hs.subset hn)⟩
theorem pathN_mem {l:List T_impl_Name} {p:ByteArray} (h:¬pathN l p < 0):l.getD (pathN l p).toNat bN ∈ l∧(l.getD (pathN l p).toNat bN).Path.toList=p.toList:=by
 obtain ⟨h0,h1⟩:=pathN_in h
 rw [zU h1]
 refine ⟨List.getElem_mem h1,?_⟩
 have:=(fidx_some (fun n:T_impl_Name=>n.Path.toList == p.toList) l (pathN l p).toNat).1 (by unfold pathN at *; omega)
 obtain ⟨h2,h3,_⟩:=this
 simpa using h3
theorem cutH_in {α:Type} {l:List α} {n:Nat} (h:n≤l.length):cutH l (n:Int)=some (l.take n):=by
 unfold cutH
 simp [h]
theorem cutL_in {α:Type} {l:List α} {n:Nat} (h:n≤l.length):cutL l (n:Int)=some (l.drop n):=by
 unfold cutL
 simp [h]
end Go.TV.F
namespace Go.TV.F
open Go.TV
def foldO {σ:Type} (f:Nat→σ→Option σ):Nat→σ→Option σ
 | 0,s=>some s
 | n+1,s=>(foldO f n s).bind (f n)
theorem opt_loop {σ ρ γ:Type} {body:Int×σ→Option ((Int×σ)⊕(ρ⊕γ))} (n:Nat) (f:Nat→σ→Option σ) (I:Nat→σ→Prop) (P:ρ→Prop) (fin:σ→γ) (s0:σ) (h0:I 0 s0)
  (hs:∀ (k:Nat) (s:σ),k < n→I k s→(∃ s',f k s=some s'∧body ((k:Int),s)=some (.inl (((k+1:Nat):Int),s'))∧I (k+1) s')∨(f k s=none∧∃ c,body ((k:Int),s)=some (.inr (.inl c))∧P c))
  (he:∀ s,I n s→body ((n:Int),s)=some (.inr (.inr (fin s)))) :
  (∃ q,foldO f n s0=some q∧zG body (0,s0)=some (.inr (fin q))∧I n q)∨(foldO f n s0=none∧∃ c,zG body (0,s0)=some (.inl c)∧P c):=by
 have key:∀ (m k:Nat) (s:σ),k+m=n→foldO f k s0=some s→I k s→(∃ q,foldO f n s0=some q∧zG body ((k:Int),s)=some (.inr (fin q))∧I n q)∨(foldO f n s0=none∧∃ c,zG body ((k:Int),s)=some (.inl c)∧P c):=by
  intro m
  induction m with
  | zero =>
   intro k s hk hf hI
   have:k=n:=by omega
   subst this
   left
   refine ⟨s,hf,?_,hI⟩
   rw [qE,he s hI]
   rfl
  | succ m ih =>
   intro k s hk hf hI
   rcases hs k s (by omega) hI with ⟨s',h1,h2,h3⟩ | ⟨h1,c,h2,h3⟩
   ·rw [qE,h2]
    refine ih (k+1) s' (by omega) ?_ h3
    show (foldO f k s0).bind (f k)=_
    rw [hf]
    exact h1
   ·right
    refine ⟨?_,c,?_,h3⟩
    ·have stop:∀ j,foldO f (k+1+j) s0=none:=by
      intro j
      induction j with
      | zero =>
       show (foldO f k s0).bind (f k)=none
       rw [hf]
       exact h1
      | succ j ihj =>
       show (foldO f (k+1+j) s0).bind _=none
       rw [ihj]
       rfl
     have:=stop m
     rwa [show k+1+m=n by omega] at this
    ·rw [qE,h2]
     rfl
 exact key n 0 s0 (by omega) rfl h0
structure ChSm (chs:List T_impl_Change):Prop where
 l:chs.length≤1000000
 p:∀ c ∈ chs,c.Path.size≤1000000000∧c.To.size≤1000000000
 n:∀ c ∈ chs,c.Lines.length≤1000000
 s:∀ c ∈ chs,∀ x ∈ c.Lines,x.size≤1000000000
def bCh:T_impl_Change:=⟨0,ByteArray.mk #[],ByteArray.mk #[],[]⟩
def planStep (chs:List T_impl_Change) (k:Nat) (p:List T_impl_Name×List Int×Int):Option (List T_impl_Name×List Int×Int):=
 let x:=chs.getD k bCh
 if ((!pathB x.Path || (x.Kind == 4 && !pathB x.To)) || (decide (pathN p.1 x.Path≥0) == (x.Kind == 1)))=true then none
 else if x.Kind=1 then some (putN ⟨x.Path,p.2.2,0⟩ p.1,p.2.1++[(k:Int)],p.2.2+1)
 else if x.Kind=2 then
  (if 0≤p.2.1.getD (p.1.getD (pathN p.1 x.Path).toNat bN).Id.toNat 0 then none else some (p.1,p.2.1.set (p.1.getD (pathN p.1 x.Path).toNat bN).Id.toNat (k:Int),p.2.2))
 else if x.Kind=3 then some (p.1.take (pathN p.1 x.Path).toNat++p.1.drop ((pathN p.1 x.Path).toNat+1),p.2.1,p.2.2)
 else if x.Kind=4 then
  (if 0≤pathN p.1 x.To then none else some (putN ⟨x.To,(p.1.getD (pathN p.1 x.Path).toNat bN).Id,(p.1.getD (pathN p.1 x.Path).toNat bN).Version⟩ p.1,p.2.1,p.2.2))
 else some p
theorem nmPl.mono {s:T_impl_Store} {f g:Int} {n:T_impl_Name} (h:nmPl s f n) (hg:f≤g):nmPl s g n:=⟨h.1,by have:=h.2.1; omega,h.2.2⟩
theorem PlanOk.step {s:T_impl_Store} {chs:List T_impl_Change} {k:Nat} {p q:List T_impl_Name×List Int×Int} (h:PlanOk s chs k p.1 p.2.1 p.2.2) (hk:k < chs.length) (e:planStep chs k p=some q):PlanOk s chs (k+1) q.1 q.2.1 q.2.2:=by
 have hx:chs[k]? = some (chs.getD k bCh):=by rw [zU hk]; exact List.getElem?_eq_getElem hk
 unfold planStep at e
 simp only at e
 split at e
 ·cases e
 rename_i q0
 simp only [Bool.or_eq_true,not_or,Bool.and_eq_true,Bool.not_eq_true',not_and,Bool.not_eq_false] at q0
 obtain ⟨⟨a1,a2⟩,a3⟩:=q0
 have h0:=h.f0
 have h1:=h.f1
 have hll:=h.ll
 have hln:=h.ln
 split at e
 ·rename_i k1
  injection e with e
  subst e
  have q1:pathN p.1 (chs.getD k bCh).Path < 0:=by
   rw [k1] at a3
   simpa using a3
  refine ⟨h.n.put a1 (fun y hy _=>pathN_none q1 y hy),fun n hn=>?_,by simp; omega,by simp only; omega,by simp only; omega,fun x hx2=>?_,fun j hj hj2=>?_,?_⟩
  ·rcases mem_putN.1 hn with rfl | ⟨hn,_⟩
   ·exact ⟨by simp only; omega,by simp only; omega,fun z=>by simp only at z; omega,fun _=>rfl⟩
   ·exact (h.i n hn).mono (by simp only; omega)
  ·rcases List.mem_append.1 hx2 with hx2 | hx2
   ·exact h.le x hx2
   ·right
    rw [List.mem_singleton.1 hx2]
    exact ⟨by omega,chs.getD k bCh,by rw [Int.toNat_natCast]; exact hx,by omega⟩
  ·rw [List.getElem_append]
   split
   ·exact h.nw j _ hj2
   ·rw [List.getElem_singleton]
    omega
  ·have:=putN_len ⟨(chs.getD k bCh).Path,p.2.2,0⟩ p.1
   simp only
   omega
 ·rename_i k1
  have q1:¬pathN p.1 (chs.getD k bCh).Path < 0:=by
   intro q
   apply a3
   have:(decide (pathN p.1 (chs.getD k bCh).Path≥0))=false:=decide_eq_false (by omega)
   rw [this]
   simpa using k1
  obtain ⟨m1,m2⟩:=pathN_mem q1
  have hm:=h.i _ m1
  split at e
  ·rename_i k2
   split at e
   ·cases e
   ·rename_i q2
    injection e with e
    subst e
    refine ⟨h.n,fun n hn=>h.i n hn,by simpa using hll,h0,by simp only; omega,fun x hx2=>?_,fun j hj hj2=>?_,by simp only; omega⟩
    ·rcases List.mem_or_eq_of_mem_set hx2 with hx2 | rfl
     ·exact h.le x hx2
     ·exact .inr ⟨by omega,chs.getD k bCh,by rw [Int.toNat_natCast]; exact hx,by omega⟩
    ·rw [List.getElem_set]
     split
     ·omega
     ·exact h.nw j (by simpa using hj) hj2
  ·split at e
   ·injection e with e
    subst e
    have hsub:(p.1.take (pathN p.1 (chs.getD k bCh).Path).toNat++p.1.drop ((pathN p.1 (chs.getD k bCh).Path).toNat+1)).Sublist p.1:=by
     conv=>rhs; rw [← List.take_append_drop (pathN p.1 (chs.getD k bCh).Path).toNat p.1]
     exact List.Sublist.append_left (List.drop_sublist_drop_left _ (by omega)) _
    refine ⟨h.n.sub hsub,fun n hn=>h.i n (hsub.subset hn),hll,h0,by simp only; omega,h.le,h.nw,?_⟩
    have:=hsub.length_le
    simp only
    omega
   ·split at e
    ·rename_i k4
     split at e
     ·cases e
     ·rename_i q2
      injection e with e
      subst e
      refine ⟨h.n.put (by simpa using a2 (by simpa using k4)) (fun y hy _=>pathN_none (show pathN p.1 (chs.getD k bCh).To < 0 by omega) y hy),fun n hn=>?_,hll,h0,by simp only; omega,h.le,h.nw,?_⟩
      ·rcases mem_putN.1 hn with rfl | ⟨hn,_⟩
       ·exact hm
       ·exact h.i n hn
      ·have:=putN_len ⟨(chs.getD k bCh).To,(p.1.getD (pathN p.1 (chs.getD k bCh).Path).toNat bN).Id,(p.1.getD (pathN p.1 (chs.getD k bCh).Path).toNat bN).Version⟩ p.1
       simp only
       omega
    ·injection e with e
     subst e
     exact ⟨h.n,h.i,hll,h0,by omega,h.le,h.nw,by omega⟩
def kindB (c:T_impl_Change):Bool:=decide (1≤c.Kind) && decide (c.Kind≤4)
def planF (chs:List T_impl_Change) (p:List T_impl_Name×List Int×Int):Option (List T_impl_Name×List Int×Int):=
 if chs.length > 8 then none else if chs.all kindB=true then foldO (planStep chs) chs.length p else none
theorem foldO_inv {σ:Type} {f:Nat→σ→Option σ} (I:Nat→σ→Prop) (N:Nat) (hs:∀ k s s',k < N→I k s→f k s=some s'→I (k+1) s'):∀ (n:Nat) (s s':σ),n≤N→I 0 s→foldO f n s=some s'→I n s'
 | 0,s,s',_,h0,e=>by
  injection e with e
  subst e
  exact h0
 | n+1,s,s',hn,h0,e=>by
  unfold foldO at e
  cases q:foldO f n s with
  | none=>rw [q] at e; cases e
  | some t =>
   rw [q] at e
   exact hs n t s' (by omega) (foldO_inv I N hs n s t (by omega) h0 q) e
theorem planF_ok {s:T_impl_Store} {chs:List T_impl_Change} {p q:List T_impl_Name×List Int×Int} (h:PlanOk s chs 0 p.1 p.2.1 p.2.2) (e:planF chs p=some q):PlanOk s chs chs.length q.1 q.2.1 q.2.2∧chs.length≤8:=by
 unfold planF at e
 split at e
 ·cases e
 ·split at e
  ·exact ⟨foldO_inv (fun k p=>PlanOk s chs k p.1 p.2.1 p.2.2) chs.length (fun k p q hk h e=>h.step hk e) chs.length p q (Nat.le_refl _) h e,by omega⟩
  ·cases e
theorem names_eq {s:T_impl_Store} (hf:s.Files.length≤1000000) {chs:List T_impl_Change} (hc:ChSm chs) {p:List T_impl_Name×List Int×Int} (h:PlanOk s chs 0 p.1 p.2.1 p.2.2) :
  ∃ r,spec_l15Names ⟨p.1,p.2.1,p.2.2⟩ chs=some r∧((∃ q,planF chs p=some q∧r=(true,⟨q.1,q.2.1,q.2.2⟩))∨(planF chs p=none∧r.1=false)):=by
 have hcl:=hc.l
 unfold spec_l15Names planF
 by_cases q0:chs.length > 8
 ·rw [ifT (decide_eq_true (by omega)),if_pos q0]
  exact ⟨_,rfl,.inr ⟨rfl,rfl⟩⟩
 ·rw [ifF (decide_eq_false (by omega)),if_neg q0]
  rw [all_loopL (bad:=(false,(T_spec_l15Plan.mk p.1 p.2.1 p.2.2))) chs kindB (fun k x hx hk=>by
   unfold spec_l15Names_l2
   rw [ifT (by simpa using hk),zF,hx,Option.bind_some,l01In_eq,Option.bind_some,wkS k (by omega)]
   exact fin_if (by unfold kindB; rfl)) (by
   unfold spec_l15Names_l2
   rw [ifF (by simp)]),Option.bind_some]
  cases qk:chs.all kindB with
  | false =>
   rw [if_neg (by simp),if_neg (by simp)]
   exact ⟨_,rfl,.inr ⟨rfl,rfl⟩⟩
  | true =>
   rw [if_pos rfl,if_pos rfl]
   simp only
   unfold spec_l15Names_j1
   have hl:=opt_loop (body:=fun (s':Int×(List T_impl_Name)×(List Int)×Int)=>spec_l15Names_l1 chs s'.1 s'.2.1 s'.2.2.1 s'.2.2.2) chs.length (planStep chs) (fun k p=>PlanOk s chs k p.1 p.2.1 p.2.2) (fun c=>c.1=false) (fun p=>p) p h (fun k p hk hI=>by
    obtain ⟨nm,ln,fl⟩:=p
    simp only at hI
    have hx:chs[k]? = some (chs.getD k bCh):=by rw [zU hk]; exact List.getElem?_eq_getElem hk
    have hmem:chs.getD k bCh ∈ chs:=List.mem_of_getElem? hx
    obtain ⟨s1,s2⟩:=hc.p _ hmem
    have h0:=hI.f0
    have h1:=hI.f1
    have hll:=hI.ll
    have hln:=hI.ln
    have e1:(if (!pathB (chs.getD k bCh).Path)=true then some true else (if ((chs.getD k bCh).Kind == 4)=true then (spec_PathOk (chs.getD k bCh).To).bind fun x54=>some (!x54) else some false).bind fun b_1=>some b_1)=some (!pathB (chs.getD k bCh).Path || ((chs.getD k bCh).Kind == 4 && !pathB (chs.getD k bCh).To)):=by
     rw [pathS_eq s2]
     cases pathB (chs.getD k bCh).Path <;> cases ((chs.getD k bCh).Kind == 4) <;> rfl
    simp only [spec_l15Names_l1]
    rw [ifT (by simpa using hk),zF,hx,Option.bind_some,pAtS_eq (by omega),Option.bind_some,pathS_eq s1,Option.bind_some,e1,Option.bind_some,orO,Option.bind_some,wkS k (by omega)]
    unfold planStep
    simp only
    by_cases qb:((!pathB (chs.getD k bCh).Path || ((chs.getD k bCh).Kind == 4 && !pathB (chs.getD k bCh).To)) || (decide (pathN nm (chs.getD k bCh).Path≥0) == ((chs.getD k bCh).Kind == 1)))=true
    ·right
     rw [if_pos qb,if_pos qb]
     exact ⟨rfl,_,rfl,rfl⟩
    ·have hst:=fun q=>PlanOk.step (p:=(nm,ln,fl)) (q:=q) hI hk
     unfold planStep at hst
     simp only at hst
     rw [if_neg qb] at hst
     rw [if_neg qb,if_neg qb]
     simp only [Bool.or_eq_true,not_or,Bool.and_eq_true,Bool.not_eq_true',not_and,Bool.not_eq_false] at qb
     obtain ⟨⟨a1,a2⟩,a3⟩:=qb
     by_cases k1:(chs.getD k bCh).Kind=1
     ·left
      rw [if_pos k1] at hst ⊢
      rw [ifT (by simpa using k1),put_eq (by omega),Option.bind_some,zN (by simp; omega),Option.bind_some,wk64 (x:=fl+1) (by omega) (by omega)]
      exact ⟨_,rfl,rfl,hst _ rfl⟩
     ·rw [if_neg k1] at hst ⊢
      rw [ifF (by simpa using k1)]
      have q1:¬pathN nm (chs.getD k bCh).Path < 0:=by
       intro q
       apply a3
       have:(decide (pathN nm (chs.getD k bCh).Path≥0))=false:=decide_eq_false (by omega)
       rw [this]
       simpa using k1
      obtain ⟨g1,g2⟩:=pathN_in q1
      obtain ⟨m1,m2⟩:=pathN_mem q1
      have hm:=hI.i _ m1
      have hm1:=hm.1
      have hm2:=hm.2.1
      by_cases k2:(chs.getD k bCh).Kind=2
      ·rw [if_pos k2] at hst ⊢
       rw [ifT (by simpa using k2),geti_D (d:=bN) g1 g2,Option.bind_some,geti_D (d:=0) hm1 (by omega),Option.bind_some]
       by_cases q2:0≤ln.getD (nm.getD (pathN nm (chs.getD k bCh).Path).toNat bN).Id.toNat 0
       ·right
        rw [if_pos q2,ifT (decide_eq_true q2)]
        exact ⟨rfl,_,rfl,rfl⟩
       ·left
        rw [if_neg q2] at hst ⊢
        rw [ifF (decide_eq_false (by omega))]
        exact ⟨_,rfl,rfl,hst _ rfl⟩
      ·rw [if_neg k2] at hst ⊢
       rw [ifF (by simpa using k2)]
       by_cases k3:(chs.getD k bCh).Kind=3
       ·left
        rw [if_pos k3] at hst ⊢
        have hw:wk .i64 (pathN nm (chs.getD k bCh).Path+1)=(((pathN nm (chs.getD k bCh).Path).toNat+1:Nat):Int):=by
         rw [wk64 (by omega) (by omega)]
         omega
        have hn2:pathN nm (chs.getD k bCh).Path=((pathN nm (chs.getD k bCh).Path).toNat:Int):=by omega
        have ec:cutH nm (pathN nm (chs.getD k bCh).Path)=some (nm.take (pathN nm (chs.getD k bCh).Path).toNat):=by
         conv=>lhs; rw [hn2]
         exact cutH_in (by omega)
        rw [ifT (by simpa using k3),ec,Option.bind_some,zN (by rw [List.length_nil,List.length_take]; omega),Option.bind_some,hw,cutL_in (by omega),Option.bind_some,List.nil_append,zN (by rw [List.length_take,List.length_drop]; omega),Option.bind_some]
        exact ⟨_,rfl,rfl,hst _ rfl⟩
       ·rw [if_neg k3] at hst ⊢
        rw [ifF (by simpa using k3)]
        by_cases k4:(chs.getD k bCh).Kind=4
        ·rw [if_pos k4] at hst ⊢
         rw [ifT (by simpa using k4),pAtS_eq (by omega),Option.bind_some]
         by_cases q2:0≤pathN nm (chs.getD k bCh).To
         ·right
          rw [if_pos q2,ifT (decide_eq_true q2)]
          exact ⟨rfl,_,rfl,rfl⟩
         ·left
          rw [if_neg q2] at hst ⊢
          rw [ifF (decide_eq_false (by omega)),geti_D (d:=bN) g1 g2,Option.bind_some,put_eq (by omega),Option.bind_some]
          exact ⟨_,rfl,rfl,hst _ rfl⟩
        ·left
         rw [if_neg k4] at hst ⊢
         rw [ifF (by simpa using k4)]
         exact ⟨_,rfl,rfl,hst _ rfl⟩) (fun p hI=>by
    simp only [spec_l15Names_l1]
    rw [ifF (by simp)])
   rcases hl with ⟨q,h1,h2,h3⟩ | ⟨h1,c,h2,h3⟩
   ·have h2:zG (fun (s':Int×(List T_impl_Name)×(List Int)×Int)=>spec_l15Names_l1 chs s'.1 s'.2.1 s'.2.2.1 s'.2.2.2) (0,p.1,p.2.1,p.2.2)=_:=h2
    rw [h2,Option.bind_some]
    exact ⟨_,rfl,.inl ⟨q,h1,rfl⟩⟩
   ·have h2:zG (fun (s':Int×(List T_impl_Name)×(List Int)×Int)=>spec_l15Names_l1 chs s'.1 s'.2.1 s'.2.2.1 s'.2.2.2) (0,p.1,p.2.1,p.2.2)=_:=h2
    rw [h2,Option.bind_some]
    exact ⟨_,rfl,.inr ⟨h1,h3⟩⟩
end Go.TV.F
namespace Go.TV.F
open Go.TV
def lns (l:List ByteArray):Bool:=decide (l.length≤80) && l.all lineB
def setV (l:List T_impl_Name) (id v:Int):List T_impl_Name:=
 if idN l id < 0 then l else l.set (idN l id).toNat ⟨(l.getD (idN l id).toNat bN).Path,(l.getD (idN l id).toNat bN).Id,v⟩
theorem setV_map (l:List T_impl_Name) (id v:Int):(setV l id v).map (fun n=>(n.Path,n.Id))=l.map fun n=>(n.Path,n.Id):=by
 unfold setV
 split
 ·rfl
 ·rename_i q
  obtain ⟨g1,g2⟩:=idN_in q
  rw [List.map_set]
  have e:((l.getD (idN l id).toNat bN).Path,(l.getD (idN l id).toNat bN).Id)=(l.map fun n=>(n.Path,n.Id))[(idN l id).toNat]'(by simpa using g2):=by
   rw [List.getElem_map,zU g2]
  show (l.map fun n=>(n.Path,n.Id)).set (idN l id).toNat ((l.getD (idN l id).toNat bN).Path,(l.getD (idN l id).toNat bN).Id)=_
  rw [e,List.set_getElem_self]
theorem NmOk.ofMap {l m:List T_impl_Name} (h:NmOk l) (e:m.map (fun n=>(n.Path,n.Id))=l.map fun n=>(n.Path,n.Id)):NmOk m:=by
 have h1:=h.s
 have h2:=h.i
 refine ⟨?_,?_,fun n hn=>?_⟩
 ·have a:(l.map fun n=>(n.Path,n.Id)).Pairwise (fun x y=>Op.bytesLess x.1.toList y.1.toList=true):=List.pairwise_map.2 h1
  rw [← e] at a
  exact (List.pairwise_map (f:=fun n:T_impl_Name=>(n.Path,n.Id))).1 a
 ·have a:(l.map fun n=>(n.Path,n.Id)).Pairwise (fun x y=>x.2≠y.2):=List.pairwise_map.2 h2
  rw [← e] at a
  exact (List.pairwise_map (f:=fun n:T_impl_Name=>(n.Path,n.Id))).1 a
 ·have:(n.Path,n.Id) ∈ m.map fun n=>(n.Path,n.Id):=List.mem_map.2 ⟨n,hn,rfl⟩
  rw [e] at this
  obtain ⟨y,hy,e2⟩:=List.mem_map.1 this
  injection e2 with e2 _
  rw [← e2]
  exact h.p y hy
theorem setV_len (l:List T_impl_Name) (id v:Int):(setV l id v).length=l.length:=by
 have:=congrArg List.length (setV_map l id v)
 simpa using this
theorem mem_setV {l:List T_impl_Name} {id v:Int} {n:T_impl_Name} (h:n ∈ setV l id v):n ∈ l∨(n.Id=id∧n.Version=v):=by
 unfold setV at h
 split at h
 ·exact .inl h
 ·rename_i q
  rcases List.mem_or_eq_of_mem_set h with h | rfl
  ·exact .inl h
  ·exact .inr ⟨(idN_name q).2,rfl⟩
theorem addAll_v {w:T_impl_Weave} {p:List Int} {lines:List ByteArray} (h0:(addAll w p lines).2.2=0):(addAll w p lines).2.1=w.Parents.length:=by
 unfold addAll at h0 ⊢
 split at h0
 ·rename_i q1
  rw [if_pos q1]
  split at h0
  ·rename_i q2
   rw [if_pos q2]
   split at h0
   ·cases h0
   ·rename_i q3
    rw [if_neg q3]
    unfold addR at h0 ⊢
    simp only at h0 ⊢
    split at h0
    ·cases h0
    ·rename_i q4
     rw [if_neg q4]
  ·cases h0
 ·cases h0
noncomputable def fileStep (s:T_impl_Store) (ps:List Int) (chs:List T_impl_Change) (lines:List Int) (id:Nat) (p:List T_impl_Name×List T_impl_Weave):Option (List T_impl_Name×List T_impl_Weave):=
 if lines.getD id 0 < 0 then some p
 else
  if (addAll (if id < s.Files.length then s.Files.getD id bW else w0) (if id < s.Files.length then ofN s.Commits ps id else []) (chs.getD (lines.getD id 0).toNat bCh).Lines).2.2=0 then
   some (setV p.1 id (addAll (if id < s.Files.length then s.Files.getD id bW else w0) (if id < s.Files.length then ofN s.Commits ps id else []) (chs.getD (lines.getD id 0).toNat bCh).Lines).2.1,
    if id < s.Files.length then p.2.set id (addAll (if id < s.Files.length then s.Files.getD id bW else w0) (if id < s.Files.length then ofN s.Commits ps id else []) (chs.getD (lines.getD id 0).toNat bCh).Lines).1
    else p.2++[(addAll (if id < s.Files.length then s.Files.getD id bW else w0) (if id < s.Files.length then ofN s.Commits ps id else []) (chs.getD (lines.getD id 0).toNat bCh).Lines).1])
  else none
structure FileI (s:T_impl_Store) (files:Int) (k:Nat) (names:List T_impl_Name) (out:List T_impl_Weave):Prop where
 ol:out.length=max s.Files.length k
 wr:∀ w ∈ out,WR w∧0 < w.Parents.length
 ge:∀ j,j < s.Files.length→(s.Files.getD j bW).Parents.length≤(out.getD j bW).Parents.length
 st:∀ j,k≤j→j < s.Files.length→out.getD j bW=s.Files.getD j bW
 n:NmOk names
 i:∀ n ∈ names,0≤n.Id∧n.Id < files∧0≤n.Version∧(n.Id.toNat < out.length→n.Version < ((out.getD n.Id.toNat bW).Parents.length:Int))∧(out.length≤n.Id.toNat→n.Version=0)
 ln:names.length≤20
theorem storeB_nz {s:T_impl_Store} (h:qW s=true) {w:T_impl_Weave} (hw:w ∈ s.Files):0 < w.Parents.length:=by
 unfold qW at h
 simp only [Bool.and_eq_true,List.all_eq_true] at h
 have:=h.1.2 w hw
 unfold fileB at this
 simp only [Bool.and_eq_true,Bool.not_eq_true',beq_eq_false_iff_ne] at this
 omega
theorem FileI.start {s:T_impl_Store} (h:qW s=true) {chs:List T_impl_Change} {p:List T_impl_Name×List Int×Int} (hp:PlanOk s chs chs.length p.1 p.2.1 p.2.2) (h8:chs.length≤8):FileI s p.2.2 0 p.1 s.Files:=by
 refine ⟨by omega,fun w hw=>⟨storeB_file h hw,storeB_nz h hw⟩,fun j _=>Nat.le_refl _,fun j _ _=>rfl,hp.n,fun n hn=>?_,by have:=hp.ln; omega⟩
 obtain ⟨a1,a2,a3,a4⟩:=hp.i n hn
 refine ⟨a1,a2,?_,fun z=>(a3 (by omega)).2,fun z=>a4 (by omega)⟩
 by_cases q:n.Id < (s.Files.length:Int)
 ·exact (a3 q).1
 ·rw [a4 q]
  omega
theorem FileI.step {s:T_impl_Store} (h:qW s=true) {ps:List Int} {chs:List T_impl_Change} {p:List T_impl_Name×List Int×Int} (hp:PlanOk s chs chs.length p.1 p.2.1 p.2.2) {k:Nat} (hk:(k:Int) < p.2.2) {st q:List T_impl_Name×List T_impl_Weave} (hI:FileI s p.2.2 k st.1 st.2) (e:fileStep s ps chs p.2.1 k st=some q):FileI s p.2.2 (k+1) q.1 q.2:=by
 have hll:=hp.ll
 have hkl:k < p.2.1.length:=by omega
 have hol:=hI.ol
 unfold fileStep at e
 split at e
 ·rename_i q0
  injection e with e
  subst e
  have hks:k < s.Files.length:=by
   rcases Nat.lt_or_ge k s.Files.length with z | z
   ·exact z
   ·have:=hp.nw k hkl z
    rw [zU hkl] at q0
    omega
  exact ⟨by omega,hI.wr,hI.ge,fun j hj hjs=>hI.st j (by omega) hjs,hI.n,hI.i,hI.ln⟩
 ·rename_i q0
  by_cases q2:k < s.Files.length
  ·simp only [if_pos q2] at e
   split at e
   ·rename_i q1
    injection e with e
    subst e
    have hm:s.Files.getD k bW ∈ s.Files:=by rw [zU q2]; exact List.getElem_mem q2
    obtain ⟨a1,a2⟩:=addAll_ok (storeB_file h hm) q1
    have a3:=addAll_v q1
    have hko:k < st.2.length:=by omega
    have eo:∀ j,(st.2.set k (addAll (s.Files.getD k bW) (ofN s.Commits ps ↑k) (chs.getD (p.2.1.getD k 0).toNat bCh).Lines).1).getD j bW=if j=k then (addAll (s.Files.getD k bW) (ofN s.Commits ps ↑k) (chs.getD (p.2.1.getD k 0).toNat bCh).Lines).1 else st.2.getD j bW:=by
     intro j
     rw [List.getD_eq_getElem?_getD,List.getElem?_set,List.getD_eq_getElem?_getD]
     by_cases z:j=k
     ·subst z
      simp [hko]
     ·have z2:¬k=j:=fun z3=>z z3.symm
      simp [z,z2]
    have hst:=hI.st k (Nat.le_refl _) q2
    refine ⟨by rw [List.length_set]; omega,fun w hw=>?_,fun j hj=>?_,fun j hj hjs=>?_,hI.n.ofMap (setV_map _ _ _),fun n hn=>?_,by rw [setV_len]; exact hI.ln⟩
    ·rcases List.mem_or_eq_of_mem_set hw with hw | rfl
     ·exact hI.wr w hw
     ·exact ⟨a1,by rw [a2,List.length_append,List.length_singleton]; omega⟩
    ·rw [eo]
     split
     ·rename_i z
      subst z
      rw [a2,List.length_append]
      omega
     ·exact hI.ge j hj
    ·rw [eo,if_neg (by omega)]
     exact hI.st j (by omega) hjs
    ·rcases mem_setV hn with hn | ⟨e1,e2⟩
     ·obtain ⟨b1,b2,b3,b4,b5⟩:=hI.i n hn
      refine ⟨b1,b2,b3,fun z=>?_,fun z=>b5 (by rw [List.length_set] at z; exact z)⟩
      rw [List.length_set] at z
      have:=b4 z
      rw [eo]
      split
      ·rename_i y
       rw [y,hst] at this
       rw [a2,List.length_append]
       omega
      ·exact this
     ·refine ⟨by omega,by omega,by omega,fun z=>?_,fun z=>?_⟩
      ·have:n.Id.toNat=k:=by omega
       rw [eo,if_pos this,a2,List.length_append,List.length_singleton,e2,a3]
       omega
      ·rw [List.length_set] at z
       omega
   ·cases e
  ·simp only [if_neg q2] at e
   split at e
   ·rename_i q1
    injection e with e
    subst e
    obtain ⟨a1,a2⟩:=addAll_ok w0_ok q1
    have a3:=addAll_v q1
    have a4:(addAll w0 [] (chs.getD (p.2.1.getD k 0).toNat bCh).Lines).1.Parents.length=1:=by rw [a2]; rfl
    have a5:(addAll w0 [] (chs.getD (p.2.1.getD k 0).toNat bCh).Lines).2.1=0:=by rw [a3]; rfl
    have hkk:st.2.length=k:=by omega
    have eo:∀ j,(st.2++[(addAll w0 [] (chs.getD (p.2.1.getD k 0).toNat bCh).Lines).1]).getD j bW=if j=k then (addAll w0 [] (chs.getD (p.2.1.getD k 0).toNat bCh).Lines).1 else st.2.getD j bW:=by
     intro j
     by_cases z:j=k
     ·rw [if_pos z,List.getD_eq_getElem?_getD,List.getElem?_append_right (by omega),show j - st.2.length=0 by omega]
      rfl
     ·rw [if_neg z]
      by_cases z2:j < st.2.length
      ·rw [List.getD_eq_getElem?_getD,List.getElem?_append_left z2,List.getD_eq_getElem?_getD]
      ·rw [List.getD_eq_getElem?_getD,List.getElem?_append_right (by omega),List.getElem?_eq_none (by rw [List.length_singleton]; omega),List.getD_eq_getElem?_getD,List.getElem?_eq_none (show st.2.length≤j by omega)]
    refine ⟨by rw [List.length_append,List.length_singleton]; omega,fun w hw=>?_,fun j hj=>?_,fun j hj hjs=>by omega,hI.n.ofMap (setV_map _ _ _),fun n hn=>?_,by rw [setV_len]; exact hI.ln⟩
    ·rcases List.mem_append.1 hw with hw | hw
     ·exact hI.wr w hw
     ·rw [List.mem_singleton.1 hw]
      exact ⟨a1,by omega⟩
    ·rw [eo,if_neg (by omega)]
     exact hI.ge j hj
    ·rcases mem_setV hn with hn | ⟨e1,e2⟩
     ·obtain ⟨b1,b2,b3,b4,b5⟩:=hI.i n hn
      refine ⟨b1,b2,b3,fun z=>?_,fun z=>b5 (by rw [List.length_append,List.length_singleton] at z; omega)⟩
      rw [List.length_append,List.length_singleton] at z
      rw [eo]
      split
      ·rename_i y
       rw [b5 (by omega),a4]
       omega
      ·exact b4 (by omega)
     ·refine ⟨by omega,by omega,by omega,fun z=>?_,fun z=>?_⟩
      ·have:n.Id.toNat=k:=by omega
       rw [eo,if_pos this,e2,a5,a4]
       omega
      ·rw [List.length_append,List.length_singleton] at z
       omega
   ·cases e
noncomputable def baseOf (s:T_impl_Store) (ps:List Int):List T_impl_Name×List Int×Int:=(spec_l14Base s.Commits (s.Files.map fun w=>w.Parents) ps).getD ([],[],0)
noncomputable def planOf (s:T_impl_Store) (ps:List Int) (chs:List T_impl_Change):Option (List T_impl_Name×List Int×Int):=
 if (baseOf s ps).2.2=0 then planF chs ((baseOf s ps).1,List.replicate s.Files.length (-1),s.Files.length) else none
def linesB2 (c:T_impl_Change):Bool:=!decide (c.Kind≤2) || lns c.Lines
def openB (p:List T_impl_Name×List Int×Int) (x:Int):Bool:=!(decide (p.2.1.getD x.toNat 0 < 0) && decide (0≤idN p.1 x))
noncomputable def commitF (s:T_impl_Store) (ps:List Int) (note:ByteArray) (chs:List T_impl_Change):T_impl_Store×Int×Int:=
 if (decide (ps.length≤4) && rise ps s.Commits.length)=true then
  if noteB note=true then
   match planOf s ps chs with
   | none=>(⟨[],[]⟩,0,4)
   | some p =>
    if chs.all linesB2=true then
     if (baseOf s ps).2.1.all (openB p)=true then
      if p.2.2 > 12∨s.Commits.length=40 then (⟨[],[]⟩,0,7)
      else match foldO (fileStep s ps chs p.2.1) p.2.2.toNat (p.1,s.Files) with
       | none=>(⟨[],[]⟩,0,7)
       | some q=>(⟨s.Commits++[⟨ps,note,q.1⟩],q.2⟩,s.Commits.length,0)
     else (⟨[],[]⟩,0,6)
    else (⟨[],[]⟩,0,5)
  else (⟨[],[]⟩,0,3)
 else (⟨[],[]⟩,0,2)
theorem base_is {s:T_impl_Store} (h:qW s=true) {ps:List Int} (hp:ps.length≤4) (hr:rise ps s.Commits.length=true) :
  spec_l14Base s.Commits (s.Files.map fun w=>w.Parents) ps=some (baseOf s ps)∧BaseOk s (baseOf s ps).1 (baseOf s ps).2.1:=by
 obtain ⟨n,o,c,e,hb⟩:=base_ok h (ps:=ps) (fun p hp=>by have:=rise_mem hr hp; omega) hp
 unfold baseOf
 rw [e]
 exact ⟨rfl,hb⟩
theorem BaseOk.plan {s:T_impl_Store} {n:List T_impl_Name} {o:List Int} (h:BaseOk s n o) (chs:List T_impl_Change):PlanOk s chs 0 n (List.replicate s.Files.length (-1)) s.Files.length:=by
 refine ⟨h.n,fun n hn=>?_,by simp,Int.le_refl _,by omega,fun x hx=>.inl ?_,fun j hj hj2=>by simp at hj; omega,by have:=h.ln; omega⟩
 ·obtain ⟨a1,a2,a3,a4⟩:=h.i n hn
  exact ⟨a1,by omega,fun _=>⟨a3,a4⟩,fun z=>by omega⟩
 ·rw [List.eq_of_mem_replicate hx]
  decide
theorem planOf_ok {s:T_impl_Store} (h:qW s=true) {ps:List Int} (hp:ps.length≤4) (hr:rise ps s.Commits.length=true) {chs:List T_impl_Change} {p:List T_impl_Name×List Int×Int} (e:planOf s ps chs=some p):PlanOk s chs chs.length p.1 p.2.1 p.2.2∧chs.length≤8:=by
 unfold planOf at e
 split at e
 ·exact planF_ok ((base_is h hp hr).2.plan chs) e
 ·cases e
end Go.TV.F
namespace Go.TV.F
open Go.TV
theorem noteB_size {x:ByteArray} (h:noteB x=true):x.size≤40:=by
 unfold noteB at h
 simp only [Bool.and_eq_true,decide_eq_true_eq] at h
 exact h.1
theorem pathB_size {x:ByteArray} (h:pathB x=true):x.size≤24:=by
 unfold pathB at h
 simp only [Bool.and_eq_true,decide_eq_true_eq] at h
 exact h.1.1.1.2
theorem commitB_of {s:T_impl_Store} (h:qW s=true) {c:T_impl_Commit} (hc:c ∈ s.Commits):noteB c.Note=true∧namesB c.Names=true∧∀ n ∈ c.Names,nameIn (sizesF s) n=true:=by
 have h2:=(storeB_cs h).2
 unfold commitsB at h2
 simp only [Bool.and_eq_true,List.all_eq_true] at h2
 have hb:=h2.2 _ hc
 unfold commitB at hb
 simp only [Bool.and_eq_true,List.all_eq_true] at hb
 exact ⟨hb.1.1,hb.1.2,hb.2⟩
theorem storeB_len40 {s:T_impl_Store} (h:qW s=true):s.Commits.length≤40:=by
 have h2:=(storeB_cs h).2
 unfold commitsB at h2
 simp only [Bool.and_eq_true,List.all_eq_true,decide_eq_true_eq] at h2
 exact h2.1.1.1.1
theorem storeB_g {s:T_impl_Store} (h:qW s=true):gOk (graphC s.Commits)=true:=by
 have h2:=(storeB_cs h).2
 unfold commitsB at h2
 simp only [Bool.and_eq_true,List.all_eq_true,decide_eq_true_eq] at h2
 exact h2.1.1.2
theorem storeB_sm {s:T_impl_Store} (h:qW s=true):StSm s:=by
 refine ⟨by have:=storeB_len40 h; omega,by have:=storeB_len h; omega,fun c hc=>?_,fun w hw=>?_⟩
 ·obtain ⟨h1,h2,_⟩:=commitB_of h hc
  refine ⟨by have:=noteB_size h1; omega,fun n hn=>?_⟩
  have:=pathB_size (namesB_id h2 hn).2.2.2.2
  omega
 ·exact (storeB_file h hw).sm
theorem storeB_mk {cs:List T_impl_Commit} {fs:List T_impl_Weave} (hf:fs.length≤12) (hw:∀ w ∈ fs,WR w∧0 < w.Parents.length) (hg:gOk (graphC cs)=true) (hl:cs.length≤40)
  (hc:∀ c ∈ cs,noteB c.Note=true∧namesB c.Names=true∧∀ n ∈ c.Names,n.Id.toNat < fs.length∧n.Version < ((fs.getD n.Id.toNat bW).Parents.length:Int)):qW ⟨cs,fs⟩=true:=by
 unfold qW
 simp only [Bool.and_eq_true,List.all_eq_true,decide_eq_true_eq]
 refine ⟨⟨hf,fun w hw'=>?_⟩,?_⟩
 ·obtain ⟨h1,h2⟩:=hw w hw'
  unfold fileB
  simp only [Bool.and_eq_true,Bool.not_eq_true',beq_eq_false_iff_ne]
  exact ⟨by omega,wOk_iff.2 h1⟩
 ·unfold commitsB
  have hs:(sizesF ⟨cs,fs⟩).length=fs.length:=by unfold sizesF; simp
  simp only [Bool.and_eq_true,List.all_eq_true,decide_eq_true_eq]
  refine ⟨⟨⟨⟨hl,by omega⟩,hg⟩,fun n hn=>?_⟩,fun c hc'=>?_⟩
  ·unfold sizesF at hn
   obtain ⟨w,hw',rfl⟩:=List.mem_map.1 hn
   have:=gOk_len (hw w hw').1.g
   exact ⟨by omega,by omega⟩
  ·obtain ⟨h1,h2,h3⟩:=hc c hc'
   unfold commitB
   simp only [Bool.and_eq_true,List.all_eq_true]
   refine ⟨⟨h1,h2⟩,fun n hn=>?_⟩
   obtain ⟨g1,g2⟩:=h3 n hn
   have g0:=(namesB_id h2 hn).1
   unfold nameIn
   simp only [Bool.not_eq_true',Bool.or_eq_false_iff,decide_eq_false_iff_not]
   refine ⟨by omega,?_⟩
   have e:(sizesF ⟨cs,fs⟩).getD n.Id.toNat 0=((fs.getD n.Id.toNat bW).Parents.length:Int):=by
    rw [zU (by omega),zU g1]
    unfold sizesF
    rw [List.getElem_map]
   rw [e]
   omega
structure Made (s:T_impl_Store) (ps:List Int) (note:ByteArray) (chs:List T_impl_Change) (p:List T_impl_Name×List Int×Int) (q:List T_impl_Name×List T_impl_Weave):Prop where
 l:ps.length≤4
 r:rise ps s.Commits.length=true
 nt:noteB note=true
 pl:planOf s ps chs=some p
 ln:chs.all linesB2=true
 op:(baseOf s ps).2.1.all (openB p)=true
 fl:¬(p.2.2 > 12∨s.Commits.length=40)
 fo:foldO (fileStep s ps chs p.2.1) p.2.2.toNat (p.1,s.Files)=some q
 is:commitF s ps note chs=((⟨s.Commits++[⟨ps,note,q.1⟩],q.2⟩:T_impl_Store),(s.Commits.length:Int),(0:Int))
theorem commitF_inv {s:T_impl_Store} {ps:List Int} {note:ByteArray} {chs:List T_impl_Change} (h:(commitF s ps note chs).2.2=0):∃ p q,Made s ps note chs p q:=by
 unfold commitF at h
 split at h
 ·rename_i q1
  split at h
  ·rename_i q2
   split at h
   ·cases h
   ·rename_i p e1
    split at h
    ·rename_i q3
     split at h
     ·rename_i q4
      split at h
      ·cases h
      ·rename_i q5
       split at h
       ·cases h
       ·rename_i q e2
        simp only [Bool.and_eq_true,decide_eq_true_eq] at q1
        refine ⟨p,q,q1.1,q1.2,q2,e1,q3,q4,q5,e2,?_⟩
        unfold commitF
        rw [if_pos (by simpa using q1),if_pos q2,e1]
        simp only
        rw [if_pos q3,if_pos q4,if_neg q5,e2]
     ·cases h
    ·cases h
  ·cases h
 ·cases h
theorem Made.files {s:T_impl_Store} (h:qW s=true) {ps:List Int} {note:ByteArray} {chs:List T_impl_Change} {p:List T_impl_Name×List Int×Int} {q:List T_impl_Name×List T_impl_Weave} (m:Made s ps note chs p q):FileI s p.2.2 p.2.2.toNat q.1 q.2:=by
 obtain ⟨h1,h2⟩:=planOf_ok h m.l m.r m.pl
 exact foldO_inv (fun k st=>FileI s p.2.2 k st.1 st.2) p.2.2.toNat (fun k st q hk hI e=>hI.step h h1 (by omega) e) _ (p.1,s.Files) _ (Nat.le_refl _) (FileI.start h h1 h2) m.fo
theorem nd_len:∀ (n:Nat) (l:List Nat),l.Nodup→(∀ x ∈ l,x < n)→l.length≤n
 | 0,l,_,h=>by
  cases l with
  | nil=>simp
  | cons x l=>exact absurd (h x (by simp)) (by omega)
 | n+1,l,hd,h=>by
  by_cases q:n ∈ l
  ·have:=nd_len n (l.erase n) (hd.erase n) (fun x hx=>by
    obtain ⟨h1,h2⟩:=(List.Nodup.mem_erase_iff hd).1 hx
    have:=h x h2
    omega)
   rw [List.length_erase_of_mem q] at this
   omega
  ·have:=nd_len n l hd (fun x hx=>by
    have:=h x hx
    have:x≠n:=fun e=>q (e ▸ hx)
    omega)
   omega
theorem nm_len {l:List T_impl_Name} (h:NmOk l) {f:Int} (hf:f≤12) (hi:∀ n ∈ l,0≤n.Id∧n.Id < f):l.length≤12:=by
 have hnd:(l.map fun n=>n.Id.toNat).Nodup:=by
  refine List.pairwise_map.2 (List.Pairwise.imp_of_mem ?_ h.i)
  intro a b ha hb hab e
  have h1:=hi a ha
  have h2:=hi b hb
  exact hab (by omega)
 have hs:(l.map fun n=>n.Id.toNat) ⊆ List.range 12:=by
  intro x hx
  obtain ⟨n,hn,rfl⟩:=List.mem_map.1 hx
  have:=hi n hn
  exact List.mem_range.2 (by omega)
 have:=nd_len 12 _ hnd (fun x hx=>List.mem_range.1 (hs hx))
 simpa using this
theorem Made.right {s:T_impl_Store} (h:qW s=true) {ps:List Int} {note:ByteArray} {chs:List T_impl_Change} {p:List T_impl_Name×List Int×Int} {q:List T_impl_Name×List T_impl_Weave} (m:Made s ps note chs p q):qW ⟨s.Commits++[⟨ps,note,q.1⟩],q.2⟩=true:=by
 have hF:=m.files h
 obtain ⟨h1,h2⟩:=planOf_ok h m.l m.r m.pl
 have h40:=storeB_len40 h
 have hfl:=m.fl
 have h0:=h1.f0
 have hol:=hF.ol
 have hlen:q.2.length=p.2.2.toNat:=by omega
 refine storeB_mk (by omega) hF.wr ?_ (by rw [List.length_append,List.length_singleton]; omega) (fun c hc=>?_)
 ·unfold graphC
  rw [List.map_append]
  have hgl:(s.Commits.map fun c=>c.Parents).length=s.Commits.length:=by simp
  exact gOk_app (storeB_g h) (by show (s.Commits.map fun c=>c.Parents).length≠40; omega) m.l (by show rise ps ((s.Commits.map fun c=>c.Parents).length:Int)=true; rw [hgl]; exact m.r)
 ·rcases List.mem_append.1 hc with hc | hc
  ·obtain ⟨g1,g2,g3⟩:=commitB_of h hc
   refine ⟨g1,g2,fun n hn=>?_⟩
   obtain ⟨k,hk,e⟩:=List.getElem_of_mem hc
   have:=cm_name h (p:=(k:Int)) (by simpa using hk) (n:=n) (by rw [Int.toNat_natCast,zU hk,e]; exact hn)
   have hge:=hF.ge n.Id.toNat this.2.1
   exact ⟨by omega,by omega⟩
  ·rw [List.mem_singleton.1 hc]
   have hi:=hF.i
   have hnl:=nm_len hF.n (f:=p.2.2) (by omega) (fun n hn=>⟨(hi n hn).1,(hi n hn).2.1⟩)
   refine ⟨m.nt,namesB_iff.2 ⟨hnl,hF.n,fun n hn=>?_⟩,fun n hn=>?_⟩
   ·obtain ⟨a1,a2,a3,a4,a5⟩:=hi n hn
    have a4:=a4 (by omega)
    have hw:=(hF.wr (q.2.getD n.Id.toNat bW) (by rw [zU (by omega)]; exact List.getElem_mem (by omega))).1
    have:=gOk_len hw.g
    exact ⟨a1,by omega,a3,by omega⟩
   ·obtain ⟨a1,a2,a3,a4,a5⟩:=hi n hn
    exact ⟨by omega,a4 (by omega)⟩
theorem fileLoop {s:T_impl_Store} (h:qW s=true) {ps:List Int} (hl:ps.length≤4) (hr:rise ps s.Commits.length=true) {chs:List T_impl_Change} (hc:ChSm chs) {p:List T_impl_Name×List Int×Int} (hp:PlanOk s chs chs.length p.1 p.2.1 p.2.2) (h8:chs.length≤8) (t:Bool) :
  (∃ q,foldO (fileStep s ps chs p.2.1) p.2.2.toNat (p.1,s.Files)=some q∧zG (fun (s':Int×(List T_impl_Name)×(List T_impl_Weave))=>jZ s ps chs (t,p) s'.1 s'.2.1 s'.2.2) (0,p.1,s.Files)=some (.inr q)) ∨
  (foldO (fileStep s ps chs p.2.1) p.2.2.toNat (p.1,s.Files)=none∧zG (fun (s':Int×(List T_impl_Name)×(List T_impl_Weave))=>jZ s ps chs (t,p) s'.1 s'.2.1 s'.2.2) (0,p.1,s.Files)=some (.inl (⟨[],[]⟩,0,7))):=by
 have hR:=(storeB_cs h).1
 have h12:=storeB_len h
 have hpn:(p.2.2.toNat:Int)=p.2.2:=by have:=hp.f0; omega
 have hp1:=hp.f1
 have hll:=hp.ll
 have hl2:=opt_loop (body:=fun (s':Int×(List T_impl_Name)×(List T_impl_Weave))=>jZ s ps chs (t,p) s'.1 s'.2.1 s'.2.2) p.2.2.toNat (fileStep s ps chs p.2.1) (fun k st=>FileI s p.2.2 k st.1 st.2) (fun c=>c=(⟨[],[]⟩,0,7)) (fun st=>st) (p.1,s.Files) (FileI.start h hp h8) (fun k st hk hI=>by
  obtain ⟨nm,out⟩:=st
  have hst:=fun q=>hI.step h (ps:=ps) hp (k:=k) (by omega) (q:=q)
  have hol:=hI.ol
  have hln:=hI.ln
  simp only at hol hln hst
  have hkl:k < p.2.1.length:=by omega
  have hx:p.2.1[k]? = some (p.2.1.getD k 0):=by rw [zU hkl]; exact List.getElem?_eq_getElem hkl
  have hxm:p.2.1.getD k 0 ∈ p.2.1:=List.mem_of_getElem? hx
  simp only [jZ]
  rw [ifT (decide_eq_true (by omega)),zF,hx,Option.bind_some,wkS k (by omega)]
  have fin:∀ (w:T_impl_Weave) (fr:List Int),WR w→fr.length≤1000→¬p.2.1.getD k 0 < 0→w=(if k < s.Files.length then s.Files.getD k bW else w0)→fr=(if k < s.Files.length then ofN s.Commits ps k else []) →
    ((∃ s',fileStep s ps chs p.2.1 k (nm,out)=some s'∧spec_l15Commit_j5 s chs (t,p) k nm out w.Parents w.Bodies fr=some (.inl (((k+1:Nat):Int),s'))∧FileI s p.2.2 (k+1) s'.1 s'.2)∨(fileStep s ps chs p.2.1 k (nm,out)=none∧∃ c,spec_l15Commit_j5 s chs (t,p) k nm out w.Parents w.Bodies fr=some (.inr (.inl c))∧c=(⟨[],[]⟩,0,7))):=by
   intro w fr hw hfr hq e1 e2
   rcases hp.le _ hxm with z | ⟨z0,c,z1,z2⟩
   ·exact absurd z hq
   have hcl:=hc.l
   have hlt:(p.2.1.getD k 0).toNat < chs.length:=by
    obtain ⟨z3,_⟩:=List.getElem?_eq_some_iff.1 z1
    exact z3
   have hcm:chs.getD (p.2.1.getD k 0).toNat bCh ∈ chs:=by rw [zU hlt]; exact List.getElem_mem hlt
   unfold fileStep at hst ⊢
   simp only at hst ⊢
   rw [if_neg hq] at hst ⊢
   rw [← e1,← e2] at hst ⊢
   unfold spec_l15Commit_j5
   simp only
   have ea:spec_l06Add (T_impl_Weave.mk w.Parents w.Bodies) fr (chs.getD (p.2.1.getD k 0).toNat bCh).Lines=some (addAll w fr (chs.getD (p.2.1.getD k 0).toNat bCh).Lines):=l06Add_eq (w:=w) hw (by omega) (fun x hx=>hc.s _ hcm x hx) (by have:=hc.n _ hcm; omega)
   rw [zF,hx,Option.bind_some,geti_D (d:=bCh) z0 hlt,Option.bind_some,ea,Option.bind_some]
   have ej:∀ (o2:List T_impl_Weave),spec_l15Commit_j6 k nm (addAll w fr (chs.getD (p.2.1.getD k 0).toNat bCh).Lines) o2=some (.inl (((k+1:Nat):Int),(setV nm k (addAll w fr (chs.getD (p.2.1.getD k 0).toNat bCh).Lines).2.1,o2))):=by
    intro o2
    unfold spec_l15Commit_j6 setV
    rw [idS_eq (by omega),Option.bind_some,wkS k (by omega)]
    by_cases q:idN nm k < 0
    ·rw [ifF (decide_eq_false (by omega)),if_pos q]
    ·obtain ⟨g1,g2⟩:=idN_in q
     rw [ifT (decide_eq_true (by omega)),if_neg q,geti_D (d:=bN) g1 g2,Option.bind_some]
   by_cases q5:(addAll w fr (chs.getD (p.2.1.getD k 0).toNat bCh).Lines).2.2=0
   ·left
    rw [if_pos q5] at hst ⊢
    rw [ifF (by rw [q5]; rfl)]
    refine ⟨_,rfl,?_,hst _ rfl⟩
    by_cases q6:k < s.Files.length
    ·have hko:k < out.length:=by omega
     rw [if_pos q6,ifT (decide_eq_true (by omega)),zF,List.getElem?_eq_getElem hko,Option.bind_some,ej,Int.toNat_natCast]
    ·rw [if_neg q6,ifF (decide_eq_false (by omega)),zN (by rw [List.length_singleton]; omega),Option.bind_some,ej]
   ·right
    rw [if_neg q5,ifT (bne_iff_ne.2 q5)]
    exact ⟨rfl,_,rfl,rfl⟩
  by_cases q0:p.2.1.getD k 0 < 0
  ·left
   unfold fileStep at hst ⊢
   rw [if_pos q0] at hst ⊢
   rw [ifT (decide_eq_true q0)]
   exact ⟨_,rfl,rfl,hst _ rfl⟩
  ·rw [ifF (decide_eq_false q0)]
   by_cases q1:k < s.Files.length
   ·have hm:s.Files.getD k bW ∈ s.Files:=by rw [zU q1]; exact List.getElem_mem q1
    rw [ifT (decide_eq_true (by omega)),geti_D (d:=bW) (by omega) (by simpa using q1),Option.bind_some,of_eq hR (fun p hp=>by have:=rise_mem hr hp; omega) hl,Option.bind_some,Int.toNat_natCast]
    have hle:(ofN s.Commits ps k).length≤ps.length:=ofN_le
    exact fin _ _ (storeB_file h hm) (by omega) q0 (by rw [if_pos q1]) (by rw [if_pos q1])
   ·rw [ifF (decide_eq_false (by omega))]
    exact fin w0 [] w0_ok (by simp) q0 (by rw [if_neg q1]) (by rw [if_neg q1])) (fun st hI=>by
  simp only [jZ]
  rw [ifF (decide_eq_false (by omega))])
 rcases hl2 with ⟨q,h1,h2,_⟩ | ⟨h1,c,h2,h3⟩
 ·exact .inl ⟨q,h1,h2⟩
 ·subst h3
  exact .inr ⟨h1,h2⟩
theorem commit_eq {s:T_impl_Store} (h:qW s=true) {ps:List Int} (hl:ps.length≤1000000000) {note:ByteArray} (hn:note.size≤1000000000) {chs:List T_impl_Change} (hc:ChSm chs):spec_l15Commit s ps note chs=some (commitF s ps note chs):=by
 have h12:=storeB_len h
 have h40:=storeB_len40 h
 have hcl:=hc.l
 unfold spec_l15Commit commitF
 have e0:(if decide ((ps.length:Int) > 4)=true then some true else (spec_l05Rise ps (s.Commits.length:Int)).bind fun x34=>some (!x34))=some (!(decide (ps.length≤4) && rise ps s.Commits.length)):=by
  by_cases q:ps.length≤4
  ·rw [ifF (decide_eq_false (by omega)),l05Rise_eq hl (by omega) (by omega),decide_eq_true q]
   rfl
  ·rw [ifT (decide_eq_true (by omega)),decide_eq_false q]
   rfl
 rw [e0,Option.bind_some]
 cases q1:(decide (ps.length≤4) && rise ps (s.Commits.length:Int)) with
 | false=>rfl
 | true =>
  rw [ifF (by rfl),if_pos rfl,noteS_eq hn,Option.bind_some]
  simp only [Bool.and_eq_true,decide_eq_true_eq] at q1
  obtain ⟨h4,hr⟩:=q1
  cases q2:noteB note with
  | false=>rfl
  | true =>
   rw [ifF (by rfl),if_pos rfl,show T_impl_Store.mk s.Commits s.Files=s from rfl,graphsS_eq (by omega),Option.bind_some]
   obtain ⟨b1,b2⟩:=base_is h h4 hr
   rw [b1,Option.bind_some]
   rw [map_loop (body:=fun (s':Int×(List Int))=>spec_l15Commit_l4 s s'.1 s'.2) s.Files (fun _=>(-1:Int)) id (by omega) (fun k x out hx hk ho=>by
    simp only [spec_l15Commit_l4]
    rw [ifT (by simpa using hk),zN (by simp; omega),Option.bind_some,wkS k (by omega)]) (fun out=>by
    simp only [spec_l15Commit_l4]
    rw [ifF (by simp)]
    rfl),Option.bind_some]
   have em:id (s.Files.map fun _=>(-1:Int))=List.replicate s.Files.length (-1):=List.map_const' ..
   rw [em]
   unfold spec_l15Commit_j1
   have hpl:∃ b,(if ((baseOf s ps).2.2 != 0)=true then some (true,(baseOf s ps).1,List.replicate s.Files.length (-1),(s.Files.length:Int)) else (spec_l15Names (T_spec_l15Plan.mk (baseOf s ps).1 (List.replicate s.Files.length (-1)) (s.Files.length:Int)) chs).bind fun x73=>some ((!x73.1),x73.2.names,x73.2.lines,x73.2.files))=some b∧((∃ p,planOf s ps chs=some p∧b=(false,p))∨(planOf s ps chs=none∧b.1=true)):=by
    unfold planOf
    by_cases q3:(baseOf s ps).2.2=0
    ·rw [ifF (by simp [q3]),if_pos q3]
     obtain ⟨r,n1,n2⟩:=names_eq (s:=s) (by omega) hc (p:=((baseOf s ps).1,List.replicate s.Files.length (-1),s.Files.length)) (b2.plan chs)
     rw [n1,Option.bind_some]
     rcases n2 with ⟨q,n3,rfl⟩ | ⟨n3,n4⟩
     ·exact ⟨_,rfl,.inl ⟨q,n3,rfl⟩⟩
     ·exact ⟨_,rfl,.inr ⟨n3,by simp [n4]⟩⟩
    ·rw [ifT (by simp [q3]),if_neg q3]
     exact ⟨_,rfl,.inr ⟨rfl,rfl⟩⟩
   obtain ⟨b,c1,c2⟩:=hpl
   rw [c1,Option.bind_some]
   rcases c2 with ⟨p,c3,rfl⟩ | ⟨c3,c4⟩
   ·rw [c3]
    obtain ⟨hp,h8⟩:=planOf_ok h h4 hr c3
    have hp0:=hp.f0
    have hp1:=hp.f1
    have hll:=hp.ll
    have hpl:=hp.ln
    simp only [Bool.false_eq_true,if_false]
    rw [all_loopL (bad:=(T_impl_Store.mk [] [],(0:Int),(5:Int))) chs linesB2 (fun k x hx hk=>by
     have hm:=List.mem_of_getElem? hx
     unfold spec_l15Commit_l3
     have e3:(if decide (x.Kind≤2)=true then (spec_LinesOk x.Lines).bind fun x95=>some (!x95) else some false)=some (!linesB2 x):=by
      unfold linesB2
      by_cases q:x.Kind≤2
      ·rw [ifT (decide_eq_true q),linesOkS_eq (hc.s x hm) (by have:=hc.n x hm; omega),decide_eq_true q]
       rfl
      ·rw [ifF (decide_eq_false q),decide_eq_false q]
       rfl
     rw [ifT (by simpa using hk),zF,hx,Option.bind_some,e3,Option.bind_some,wkS k (by omega)]
     exact fin_if rfl) (by
     unfold spec_l15Commit_l3
     rw [ifF (by simp)]),Option.bind_some]
    cases q4:chs.all linesB2 with
    | false=>rfl
    | true =>
     rw [if_pos rfl,if_pos rfl]
     simp only
     unfold spec_l15Commit_j2
     have hlo:=b2.lo
     rw [all_loopL (bad:=(T_impl_Store.mk [] [],(0:Int),(6:Int))) (baseOf s ps).2.1 (openB p) (fun k x hx hk=>by
      have hm:=List.mem_of_getElem? hx
      obtain ⟨o1,o2⟩:=b2.o x hm
      unfold spec_l15Commit_l2
      simp only
      have e3:(if decide (p.2.1.getD x.toNat 0 < 0)=true then (spec_l13Id p.1 x).bind fun x121=>some (decide (x121≥0)) else some false)=some (!openB p x):=by
       unfold openB
       rw [idS_eq (by omega)]
       by_cases q:p.2.1.getD x.toNat 0 < 0
       ·rw [ifT (decide_eq_true q),decide_eq_true q]
        simp only [Option.bind_some,Bool.true_and,Bool.not_not]
       ·rw [ifF (decide_eq_false q),decide_eq_false q]
        rfl
      rw [ifT (by simpa using hk),zF,hx,Option.bind_some,geti_D (d:=0) o1 (by omega),Option.bind_some,e3,Option.bind_some,wkS k (by omega)]
      exact fin_if rfl) (by
      unfold spec_l15Commit_l2
      rw [ifF (by simp)]),Option.bind_some]
     cases q5:(baseOf s ps).2.1.all (openB p) with
     | false=>rfl
     | true =>
      rw [if_pos rfl,if_pos rfl]
      simp only
      unfold spec_l15Commit_j3
      simp only
      rw [orO,Option.bind_some]
      by_cases q6:p.2.2 > 12∨s.Commits.length=40
      ·rw [ifT (by simp only [Bool.or_eq_true,decide_eq_true_eq,beq_iff_eq]; omega),if_pos q6]
      ·rw [ifF (by simp only [Bool.or_eq_false_iff,decide_eq_false_iff_not,beq_eq_false_iff_ne]; omega),if_neg q6,show T_impl_Store.mk s.Commits s.Files=s from rfl]
       have hR:=(storeB_cs h).1
       rw [copy_eq (by omega) (by omega) (fun c hcm=>by
        obtain ⟨k,hk,e⟩:=List.getElem_of_mem hcm
        have h1:=hR.n c hcm
        have h2:=hR.q k hk
        rw [e] at h2
        omega) (fun w hw=>storeB_file h hw),Option.bind_some]
       rcases fileLoop h h4 hr hc hp h8 false with ⟨q,f1,f2⟩ | ⟨f1,f2⟩
       ·rw [f2,f1,Option.bind_some]
        simp only
        unfold spec_l15Commit_j4
        rw [zN (by rw [List.length_nil]; omega),Option.bind_some,List.nil_append,zN (by rw [List.length_singleton]; omega),Option.bind_some]
       ·rw [f2,f1,Option.bind_some]
   ·rw [c3,if_pos c4]
end Go.TV.F
namespace Go.TV.F
open Go.TV
theorem lineB_size {x:ByteArray} (h:lineB x=true):x.size≤60:=by
 unfold lineB at h
 simp only [Bool.and_eq_true,decide_eq_true_eq] at h
 exact h.1
theorem txt_line {w:T_impl_Weave} (h:WR w) (v:Nat):∀ x ∈ txt w v,lineB x=true:=fun x hx=>by
 unfold txt at hx
 obtain ⟨b,hb,rfl⟩:=List.mem_map.1 hx
 exact h.line (List.mem_filter.1 hb).1
theorem pickInt_ok {b:List Int} {c:T_spec_l01Cur} {l:List Int} (hb:b.length≤1000000000) (h:CurOk b c) (h0:0 < l.length) (h1:l.length≤256):∃ x c',spec_l01PickInt c l=some (x,c')∧x ∈ l∧CurOk b c':=by
 unfold spec_l01PickInt
 obtain ⟨x,c',e,g0,g1,_,g3⟩:=l01Below_ok hb h (n:=(l.length:Int)) (by omega)
 have g1:=g1 (by omega)
 have e':qZ (T_spec_l01Cur.mk c.b c.i c.h) (l.length:Int)=some (x,c'):=e
 rw [e',Option.bind_some,geti_in g0 (by omega),Option.bind_some]
 exact ⟨_,_,rfl,List.getElem_mem _,g3⟩
theorem path2_ok {b:List Int} {c:T_spec_l01Cur} (hb:b.length≤1000000000) (h:CurOk b c):∃ x c',spec_l13Path2 c=some (x,c')∧x.size≤25∧CurOk b c':=by
 unfold spec_l13Path2
 obtain ⟨x,c1,e,g1⟩:=l01Once_ok hb h (n:=25) (by omega)
 have e':jH (T_spec_l01Cur.mk c.b c.i c.h) 25=some (x,c1):=e
 rw [e',Option.bind_some]
 cases x with
 | true =>
  simp only [if_true]
  obtain ⟨y,c2,f1,f2,f3⟩:=l01Pick_ok hb (c:=⟨c1.b,c1.i,c1.h⟩) g1 (l:=[(ByteArray.mk #[]),(ByteArray.mk #[47,97]),(ByteArray.mk #[97,47]),(ByteArray.mk #[97,47,47,98]),(ByteArray.mk #[65]),(ByteArray.mk #[97,97,97,97,97,97,97,97,97,97,97,97,97,97,97,97,97,97,97,97,97,97,97,97]),(ByteArray.mk #[97,97,97,97,97,97,97,97,97,97,97,97,97,97,97,97,97,97,97,97,97,97,97,97,97]),(ByteArray.mk #[97,32,98]),(ByteArray.mk #[233])]) (by simp) (by simp)
  rw [f1,Option.bind_some]
  refine ⟨_,_,rfl,?_,f3⟩
  show y.size≤25
  simp only [List.mem_cons,List.not_mem_nil,or_false] at f2
  clear f1
  rcases f2 with rfl | rfl | rfl | rfl | rfl | rfl | rfl | rfl | rfl <;> decide
 | false =>
  simp only [Bool.false_eq_true,if_false]
  obtain ⟨y,c2,f1,f2,f3⟩:=l01Pick_ok hb (c:=⟨c1.b,c1.i,c1.h⟩) g1 (l:=[(ByteArray.mk #[97]),(ByteArray.mk #[98]),(ByteArray.mk #[115,114,99,47,109,97,105,110]),(ByteArray.mk #[100,111,99,46,116,120,116]),(ByteArray.mk #[120,45,49])]) (by simp) (by simp)
  rw [f1,Option.bind_some]
  refine ⟨_,_,rfl,?_,f3⟩
  show y.size≤25
  simp only [List.mem_cons,List.not_mem_nil,or_false] at f2
  clear f1
  rcases f2 with rfl | rfl | rfl | rfl | rfl <;> decide
theorem long_ok {n x:Int} (h0:0≤n) (h1:n≤100000):∃ s,spec_l01Long n x=some s∧(s.size:Int)=n:=by
 unfold spec_l01Long
 rw [mkl_in h0 (by omega),Option.bind_some]
 have hl:=inv_loop (body:=fun (s':Int×(List Int))=>spec_l01Long_l1 n x s'.1 s'.2) n.toNat (fun k o=>o.length=n.toNat) (fun o=>o.length=n.toNat) (List.replicate n.toNat 0) (by simp) (fun k o hk hI=>by
  left
  simp only [spec_l01Long_l1]
  rw [ifT (decide_eq_true (by omega)),zF,List.getElem?_eq_getElem (by omega),Option.bind_some,wkS k (by omega)]
  exact ⟨_,rfl,by rw [List.length_set]; exact hI⟩) (fun o hI=>⟨o,by
  simp only [spec_l01Long_l1]
  rw [ifF (decide_eq_false (by omega))],hI⟩)
 obtain ⟨r,e1,e2⟩:=hl
 rw [e1,Option.bind_some]
 unfold spec_l01Long_j1
 refine ⟨_,rfl,?_⟩
 rw [mkS_size]
 omega
def smLn (l:List ByteArray):Prop:=l.length≤1000∧∀ x ∈ l,x.size≤100
theorem any_ok {b:List Int} {c:T_spec_l01Cur} (hb:b.length≤1000000000) (h:CurOk b c):∃ l c',spec_l03Any c=some (l,c')∧smLn l∧CurOk b c':=by
 unfold spec_l03Any
 obtain ⟨l,c1,e1,l1,l2,l3⟩:=l03Lines_ok hb h (n:=9) (by omega) (by omega)
 have e1':spec_l03Lines (T_spec_l01Cur.mk c.b c.i c.h) 9=some (l,c1):=e1
 have hs:∀ x ∈ l,x.size≤100:=fun x hx=>by have:=lineB_size (l2 x hx); omega
 obtain ⟨k,c2,e2,_,_,_,l4⟩:=l01Below_ok hb (c:=⟨c1.b,c1.i,c1.h⟩) l3 (n:=40) (by omega)
 rw [e1',Option.bind_some,e2,Option.bind_some]
 simp only
 split
 ·obtain ⟨k3,c3,e3,a0,a1,_,l5⟩:=l01Below_ok hb (c:=⟨c2.b,c2.i,c2.h⟩) l4 (n:=2) (by omega)
  have a1:=a1 (by omega)
  rw [e3,Option.bind_some,wk64 (by simp only; omega) (by simp only; omega)]
  obtain ⟨s,e4,e5⟩:=long_ok (n:=60+k3) (x:=120) (by omega) (by omega)
  rw [e4,Option.bind_some,zN (by rw [List.length_singleton]; omega),Option.bind_some]
  refine ⟨_,_,rfl,⟨by rw [List.length_append,List.length_singleton]; omega,fun x hx=>?_⟩,l5⟩
  rcases List.mem_append.1 hx with hx | hx
  ·exact hs x hx
  ·rw [List.mem_singleton.1 hx]
   omega
 ·split
  ·rw [zN (by rw [List.length_singleton]; omega),Option.bind_some]
   refine ⟨_,_,rfl,⟨by rw [List.length_append,List.length_singleton]; omega,fun x hx=>?_⟩,l4⟩
   rcases List.mem_append.1 hx with hx | hx
   ·exact hs x hx
   ·rw [List.mem_singleton.1 hx]
    decide
  ·split
   ·obtain ⟨r,f1,f2,f3,f4⟩:=loopK1 (f:=fun (s':(List Int)×Int×Int×(List ByteArray))=>spec_l03Any_l1 s'.1 s'.2.1 s'.2.2.1 s'.2.2.2) (fun s=>CurOk b ⟨s.1,s.2.1,s.2.2.1⟩∧s.2.2.2.length≤100∧∀ x ∈ s.2.2.2,x.size≤100) (fun s=>100 - s.2.2.2.length)
     (fun r=>CurOk b ⟨r.1,r.2.1,r.2.2.1⟩∧r.2.2.2.length≤100∧∀ x ∈ r.2.2.2,x.size≤100) (s:=(c2.b,c2.i,c2.h,l)) ⟨l4,by simp only; omega,hs⟩ (fun s hI=>by
     obtain ⟨cb,ci,ch,out⟩:=s
     obtain ⟨i1,i2,i3⟩:=hI
     simp only at i1 i2 i3 ⊢
     unfold spec_l03Any_l1
     obtain ⟨k3,c3,e3,a0,a1,_,l5⟩:=l01Below_ok hb i1 (n:=2) (by omega)
     have a1:=a1 (by omega)
     rw [e3,Option.bind_some,wk64 (by simp only; omega) (by simp only; omega)]
     simp only
     by_cases q:(out.length:Int) < 80+k3
     ·left
      obtain ⟨y,c4,y1,y2,y3⟩:=l03Line_ok hb (c:=⟨c3.b,c3.i,c3.h⟩) l5
      rw [ifT (decide_eq_true q),y1,Option.bind_some,zN (by rw [List.length_singleton]; omega),Option.bind_some]
      refine ⟨_,rfl,⟨y3,by simp only [List.length_append,List.length_singleton]; omega,fun x hx=>?_⟩,by simp only [List.length_append,List.length_singleton]; omega⟩
      rcases List.mem_append.1 hx with hx | hx
      ·exact i3 x hx
      ·rw [List.mem_singleton.1 hx]
       have:=lineB_size y2
       show y.size≤100
       omega
     ·right
      rw [ifF (decide_eq_false q)]
      exact ⟨_,rfl,l5,i2,i3⟩)
    rw [f1,Option.bind_some]
    exact ⟨_,_,rfl,⟨by omega,f4⟩,f2⟩
   ·exact ⟨_,_,rfl,⟨by omega,hs⟩,l4⟩
def smCh (c:T_impl_Change):Prop:=c.Path.size≤100∧c.To.size≤100∧smLn c.Lines
theorem ChSm.of {l:List T_impl_Change} (h:l.length≤1000000) (hs:∀ c ∈ l,smCh c):ChSm l:=
 ⟨h,fun c hc=>by obtain ⟨h1,h2,_⟩:=hs c hc; omega,fun c hc=>by have:=(hs c hc).2.2.1; omega,fun c hc x hx=>by have:=(hs c hc).2.2.2 x hx; omega⟩
theorem changes_ok {b:List Int} {c:T_spec_l01Cur} (hb:b.length≤1000000000) (h:CurOk b c) {s:T_impl_Store} (hs:qW s=true) {ps:List Int} (hl:ps.length≤4) (hr:rise ps s.Commits.length=true) :
  ∃ l c',spec_l15Changes c s ps=some (l,c')∧ChSm l∧CurOk b c':=by
 have h12:=storeB_len hs
 have hR:=(storeB_cs hs).1
 have hp:∀ p ∈ ps,0≤p∧p.toNat < s.Commits.length:=fun p hp=>by have:=rise_mem hr hp; omega
 unfold spec_l15Changes
 rw [show T_impl_Store.mk s.Commits s.Files=s from rfl,graphsS_eq (by omega),Option.bind_some]
 obtain ⟨b1,b2⟩:=base_is hs hl hr
 rw [b1,Option.bind_some]
 have hlo:=b2.lo
 have hln:=b2.ln
 obtain ⟨r,e1,e2,e3,e4⟩:=inv_loop (body:=fun (s':Int×(List Int)×Int×Int×(List T_impl_Change))=>spec_l15Changes_l2 s ps (baseOf s ps) s'.1 s'.2.1 s'.2.2.1 s'.2.2.2.1 s'.2.2.2.2) (baseOf s ps).2.1.length
  (fun k st=>CurOk b ⟨st.1,st.2.1,st.2.2.1⟩∧st.2.2.2.length≤k∧∀ x ∈ st.2.2.2,smCh x) (fun st=>CurOk b ⟨st.1,st.2.1,st.2.2.1⟩∧st.2.2.2.length≤(baseOf s ps).2.1.length∧∀ x ∈ st.2.2.2,smCh x) (c.b,c.i,c.h,[]) ⟨h,by simp,by simp⟩ (fun k st hk hI=>by
  left
  obtain ⟨cb,ci,ch,out⟩:=st
  obtain ⟨i1,i2,i3⟩:=hI
  simp only at i1 i2 i3
  obtain ⟨x,hx⟩:∃ x,(baseOf s ps).2.1[k]? = some x:=⟨_,List.getElem?_eq_getElem hk⟩
  obtain ⟨o1,o2⟩:=b2.o x (List.mem_of_getElem? hx)
  simp only [spec_l15Changes_l2]
  rw [ifT (by simpa using hk),zF,hx,Option.bind_some,idS_eq (by omega),Option.bind_some,wkS k (by omega)]
  have stay:∀ (cc:T_spec_l01Cur),CurOk b cc→∃ s',(some (Sum.inl (((k+1:Nat):Int),cc.b,cc.i,cc.h,out)):Option ((Int×(List Int)×Int×Int×(List T_impl_Change))⊕((List Int)×Int×Int×(List T_impl_Change))))=some (.inl (((k+1:Nat):Int),s'))∧CurOk b ⟨s'.1,s'.2.1,s'.2.2.1⟩∧s'.2.2.2.length≤k+1∧∀ x ∈ s'.2.2.2,smCh x:=fun cc hcc=>⟨_,rfl,hcc,by simp only; omega,i3⟩
  by_cases q:idN (baseOf s ps).1 x < 0
  ·rw [ifF (decide_eq_false (by omega)),Option.bind_some]
   simp only [Bool.false_eq_true,if_false]
   exact stay ⟨cb,ci,ch⟩ i1
  ·obtain ⟨g1,g2⟩:=idN_in q
   obtain ⟨y,c1,y1,y2⟩:=l01Once_ok hb i1 (n:=12) (by omega)
   rw [ifT (decide_eq_true (by omega)),y1,Option.bind_some,Option.bind_some]
   cases y with
   | true =>
    simp only [Bool.not_true,Bool.false_eq_true,if_false]
    exact stay c1 y2
   | false =>
    simp only [Bool.not_false,if_true]
    have hm:s.Files.getD x.toNat bW ∈ s.Files:=by rw [zU o2]; exact List.getElem_mem o2
    have hW:=storeB_file hs hm
    have hle:(ofN s.Commits ps x).length≤ps.length:=ofN_le
    have hv:(ofN s.Commits ps x).all (vIn ((s.Files.getD x.toNat bW).Parents.length:Int))=true:=List.all_eq_true.2 fun v hv=>by
     obtain ⟨p,hpp,n,hn,z1,z2⟩:=mem_ofN hv
     have:=cm_name hs (hp p hpp).2 hn
     rw [z1,z2] at this
     unfold vIn
     simp only [Bool.and_eq_true,decide_eq_true_eq]
     exact ⟨this.2.2.1,this.2.2.2.1⟩
    obtain ⟨s1,s2⟩:=seenS_eq (w:=s.Files.getD x.toNat bW) (l:=ofN s.Commits ps x) hW.sm (wOk_iff.2 hW) hv (by omega)
    have s1':spec_l06Seen (T_impl_Weave.mk (s.Files.getD x.toNat bW).Parents (s.Files.getD x.toNat bW).Bodies) (ofN s.Commits ps x)=_:=s1
    have s2':spec_l06Lines (T_impl_Weave.mk (s.Files.getD x.toNat bW).Parents (s.Files.getD x.toNat bW).Bodies) _=_:=s2
    have hsl:=seenL_len (s.Files.getD x.toNat bW) (ofN s.Commits ps x)
    have h300:=hW.n
    obtain ⟨nr,c2,n1,n2,n3,n4⟩:=l04Near_ok hb (c:=⟨c1.b,c1.i,c1.h⟩) y2 (a:=seenL (s.Files.getD x.toNat bW) (ofN s.Commits ps x)) (by omega) (seenL_line hW _)
    rw [geti_D (d:=bN) g1 g2,Option.bind_some,Option.bind_some,geti_D (d:=bW) o1 o2,Option.bind_some,of_eq hR hp hl,Option.bind_some,s1',Option.bind_some,s2',Option.bind_some,n1,Option.bind_some,zN (by rw [List.length_singleton]; omega),Option.bind_some]
    refine ⟨_,rfl,n4,by simp only [List.length_append,List.length_singleton]; omega,fun z hz=>?_⟩
    rcases List.mem_append.1 hz with hz | hz
    ·exact i3 z hz
    ·rw [List.mem_singleton.1 hz]
     have hpb:=pathB_size (b2.n.p _ (idN_name q).1)
     exact ⟨by simp only; omega,(show (ByteArray.mk #[]).size≤100 by decide),(show nr.length≤1000 by omega),fun u hu=>by have:=lineB_size (n3 u hu); omega⟩) (fun st hI=>by
  obtain ⟨cb,ci,ch,out⟩:=st
  refine ⟨_,?_,hI⟩
  simp only [spec_l15Changes_l2]
  rw [ifF (by simp)])
 rw [e1,Option.bind_some]
 unfold spec_l15Changes_j1
 obtain ⟨r2,f1,f2,f3,f4⟩:=loopK1 (f:=fun (s':Int×(List Int)×Int×Int×(List T_impl_Change))=>spec_l15Changes_l1 s (baseOf s ps) s'.1 s'.2.1 s'.2.2.1 s'.2.2.2.1 s'.2.2.2.2)
  (fun st=>0≤st.1∧st.1≤10∧CurOk b ⟨st.2.1,st.2.2.1,st.2.2.2.1⟩∧(st.2.2.2.2.length:Int)≤(baseOf s ps).2.1.length+st.1∧∀ x ∈ st.2.2.2.2,smCh x) (fun st=>(10 - st.1).toNat)
  (fun r=>CurOk b ⟨r.1,r.2.1,r.2.2.1⟩∧r.2.2.2.length≤2000∧∀ x ∈ r.2.2.2,smCh x) (s:=(0,r.1,r.2.1,r.2.2.1,r.2.2.2)) ⟨by simp,by simp,e2,by simp only; omega,e4⟩ (fun st hI=>by
  obtain ⟨i,cb,ci,ch,out⟩:=st
  obtain ⟨i0,i1,i2,i3,i4⟩:=hI
  simp only at i0 i1 i2 i3 i4 ⊢
  unfold spec_l15Changes_l1
  obtain ⟨k,c1,k1,k2,k3,_,k4⟩:=l01Below_ok hb i2 (n:=3) (by omega)
  have k3:=k3 (by omega)
  rw [k1,Option.bind_some,wk64 (x:=1+(k,c1).1) (by simp only; omega) (by simp only; omega)]
  simp only
  by_cases q:i < 1+k
  ·left
   rw [ifT (decide_eq_true q)]
   obtain ⟨pa,c2,p1,p2,p3⟩:=path2_ok hb (c:=⟨c1.b,c1.i,c1.h⟩) k4
   obtain ⟨an,c3,a1,a2,a3⟩:=any_ok hb (c:=⟨c2.b,c2.i,c2.h⟩) p3
   rw [p1,Option.bind_some,a1,Option.bind_some]
   have fin:∀ (cc:T_spec_l01Cur) (kd:Int) (p t:ByteArray) (ls:List ByteArray),CurOk b cc→p.size≤100→t.size≤100→smLn ls→∃ s',spec_l15Changes_j3 i out cc.b cc.i cc.h kd p t ls=some (.inl s')∧(0≤s'.1∧s'.1≤10∧CurOk b ⟨s'.2.1,s'.2.2.1,s'.2.2.2.1⟩∧(s'.2.2.2.2.length:Int)≤(baseOf s ps).2.1.length+s'.1∧∀ x ∈ s'.2.2.2.2,smCh x)∧(10 - s'.1).toNat < (10 - i).toNat:=by
    intro cc kd p t ls hcc hp1 ht1 hls
    unfold spec_l15Changes_j3
    obtain ⟨o,c4,o1,o2⟩:=l01Once_ok hb (c:=⟨cc.b,cc.i,cc.h⟩) hcc (n:=60) (by omega)
    rw [o1,Option.bind_some]
    have happ:∀ kd2,∀ x ∈ out++[T_impl_Change.mk kd2 p t ls],smCh x:=fun kd2 x hx=>by
     rcases List.mem_append.1 hx with hx | hx
     ·exact i4 x hx
     ·rw [List.mem_singleton.1 hx]
      exact ⟨hp1,ht1,hls⟩
    have w1:wk .i64 (i+1)=i+1:=wk64 (by omega) (by omega)
    cases o with
    | true =>
     simp only [if_true]
     obtain ⟨kd2,c5,d1,d2,d3⟩:=pickInt_ok hb (c:=⟨c4.b,c4.i,c4.h⟩) o2 (l:=[0,5]) (by simp) (by simp)
     rw [d1,Option.bind_some,zN (by rw [List.length_singleton]; omega),Option.bind_some,w1]
     exact ⟨_,rfl,⟨by simp only; omega,by simp only; omega,d3,by simp only [List.length_append,List.length_singleton]; omega,happ _⟩,by simp only; omega⟩
    | false =>
     simp only [Bool.false_eq_true,if_false]
     rw [zN (by rw [List.length_singleton]; omega),Option.bind_some,w1]
     exact ⟨_,rfl,⟨by simp only; omega,by simp only; omega,o2,by simp only [List.length_append,List.length_singleton]; omega,happ _⟩,by simp only; omega⟩
   have hcond:∃ bb cc,(if decide (((baseOf s ps).1.length:Int) > 0)=true then (jH (T_spec_l01Cur.mk c3.b c3.i c3.h) 3).bind fun x100=>some ((!x100.1),x100.2.b,x100.2.i,x100.2.h) else some (false,c3.b,c3.i,c3.h))=some (bb,cc.b,cc.i,cc.h)∧CurOk b cc∧(bb=true→0 < (baseOf s ps).1.length):=by
    by_cases q2:0 < (baseOf s ps).1.length
    ·obtain ⟨o,c4,o1,o2⟩:=l01Once_ok hb (c:=⟨c3.b,c3.i,c3.h⟩) a3 (n:=3) (by omega)
     rw [ifT (decide_eq_true (by omega)),o1]
     exact ⟨!o,c4,rfl,o2,fun _=>q2⟩
    ·rw [ifF (decide_eq_false (by omega))]
     exact ⟨false,c3,rfl,a3,fun z=>by cases z⟩
   obtain ⟨bb,cc,h1,h2,h3⟩:=hcond
   rw [h1,Option.bind_some]
   cases bb with
   | false =>
    simp only [Bool.false_eq_true,if_false]
    exact fin cc _ _ _ _ h2 (by omega) (by decide) a2
   | true =>
    have h3:=h3 rfl
    simp only [if_true]
    obtain ⟨j,c4,j1,j2,j3,_,j4⟩:=l01Below_ok hb (c:=⟨cc.b,cc.i,cc.h⟩) h2 (n:=((baseOf s ps).1.length:Int)) (by omega)
    have j3:=j3 (by omega)
    obtain ⟨kd,c5,d1,d2,d3⟩:=pickInt_ok hb (c:=⟨c4.b,c4.i,c4.h⟩) j4 (l:=[2,2,2,3,4]) (by simp) (by simp)
    obtain ⟨to,c6,t1,t2,t3⟩:=path2_ok hb (c:=⟨c5.b,c5.i,c5.h⟩) d3
    obtain ⟨o,c7,o1,o2⟩:=l01Once_ok hb (c:=⟨c6.b,c6.i,c6.h⟩) t3 (n:=6) (by omega)
    have hjl:j.toNat < (baseOf s ps).1.length:=by omega
    have hm:(baseOf s ps).1.getD j.toNat bN ∈ (baseOf s ps).1:=by rw [zU hjl]; exact List.getElem_mem hjl
    obtain ⟨m1,m2,m3,m4⟩:=b2.i _ hm
    have hpb:=pathB_size (b2.n.p _ hm)
    rw [j1,Option.bind_some,geti_D (d:=bN) j2 hjl,Option.bind_some,d1,Option.bind_some,t1,Option.bind_some,o1,Option.bind_some]
    cases o with
    | true =>
     simp only [Bool.not_true,Bool.false_eq_true,if_false]
     exact fin c7 _ _ _ _ o2 (by omega) (by omega) a2
    | false =>
     simp only [Bool.not_false,if_true]
     have hmf:s.Files.getD ((baseOf s ps).1.getD j.toNat bN).Id.toNat bW ∈ s.Files:=by rw [zU m2]; exact List.getElem_mem m2
     have hW:=storeB_file hs hmf
     have ht:spec_l06Text (T_impl_Weave.mk (s.Files.getD ((baseOf s ps).1.getD j.toNat bN).Id.toNat bW).Parents (s.Files.getD ((baseOf s ps).1.getD j.toNat bN).Id.toNat bW).Bodies) ((baseOf s ps).1.getD j.toNat bN).Version=_:=textS hW m3 m4
     have htl:=txt_len hW ((baseOf s ps).1.getD j.toNat bN).Version.toNat
     obtain ⟨nr,c8,n1,n2,n3,n4⟩:=l04Near_ok hb (c:=⟨c7.b,c7.i,c7.h⟩) o2 (a:=txt (s.Files.getD ((baseOf s ps).1.getD j.toNat bN).Id.toNat bW) ((baseOf s ps).1.getD j.toNat bN).Version.toNat) (by omega) (txt_line hW _)
     rw [geti_D (d:=bW) m1 m2,Option.bind_some,ht,Option.bind_some,n1,Option.bind_some]
     exact fin c8 _ _ _ _ n4 (by omega) (by omega) ⟨(show nr.length≤1000 by omega),fun u hu=>by have:=lineB_size (n3 u hu); omega⟩
  ·right
   rw [ifF (decide_eq_false q)]
   exact ⟨_,rfl,k4,by simp only; omega,i4⟩)
 rw [f1,Option.bind_some]
 exact ⟨_,_,rfl,ChSm.of (by omega) f4,f2⟩
theorem storeB_nil:qW ⟨[],[]⟩=true:=by decide
theorem right_ok {b:List Int} {c:T_spec_l01Cur} {n:Int} (hb:b.length≤1000000000) (h:CurOk b c) (h0:0≤n) (h1:n≤100):∃ s c',spec_l15Right c n=some (s,c')∧qW s=true∧CurOk b c':=by
 unfold spec_l15Right
 obtain ⟨r,e1,e2,e3⟩:=inv_loop (body:=fun (s':Int×(List Int)×Int×Int×(List T_impl_Commit)×(List T_impl_Weave))=>spec_l15Right_l1 n s'.1 s'.2.1 s'.2.2.1 s'.2.2.2.1 s'.2.2.2.2.1 s'.2.2.2.2.2) n.toNat
  (fun k st=>CurOk b ⟨st.1,st.2.1,st.2.2.1⟩∧qW ⟨st.2.2.2.1,st.2.2.2.2⟩=true) (fun st=>CurOk b ⟨st.1,st.2.1,st.2.2.1⟩∧qW ⟨st.2.2.2.1,st.2.2.2.2⟩=true) (c.b,c.i,c.h,[],[]) ⟨h,storeB_nil⟩ (fun k st hk hI=>by
  left
  obtain ⟨cb,ci,ch,cs,fs⟩:=st
  obtain ⟨i1,i2⟩:=hI
  simp only at i1 i2
  have h40:=storeB_len40 i2
  simp only at h40
  simp only [spec_l15Right_l1]
  rw [ifT (decide_eq_true (by omega)),wkS k (by omega)]
  obtain ⟨ps,c1,p1,p2,p3⟩:=l05Parents_ok hb i1 (n:=(cs.length:Int)) (by omega) (by omega)
  obtain ⟨nt,c2,n1,n2,n3⟩:=l01Pick_ok hb (c:=⟨c1.b,c1.i,c1.h⟩) p3 (l:=[(ByteArray.mk #[]),(ByteArray.mk #[102,105,114,115,116]),(ByteArray.mk #[120,32,121])]) (by simp) (by simp)
  obtain ⟨chs,c3,d1,d2,d3⟩:=changes_ok hb (c:=⟨c2.b,c2.i,c2.h⟩) n3 i2 p2.1 p2.2
  have hnt:nt.size≤100:=by
   simp only [List.mem_cons,List.not_mem_nil,or_false] at n2
   clear n1
   rcases n2 with rfl | rfl | rfl <;> decide
  have hpl:=p2.1
  have ec:=commit_eq i2 (ps:=ps) (by omega) (note:=nt) (by omega) d2
  rw [p1,Option.bind_some,n1,Option.bind_some,d1,Option.bind_some,ec,Option.bind_some]
  by_cases q:(commitF ⟨cs,fs⟩ ps nt chs).2.2=0
  ·rw [ifT (by simp [q])]
   obtain ⟨p,q,m⟩:=commitF_inv q
   have:=m.right i2
   refine ⟨_,rfl,d3,?_⟩
   rw [m.is]
   exact this
  ·rw [ifF (by simpa using q)]
   exact ⟨_,rfl,d3,i2⟩) (fun st hI=>by
  obtain ⟨cb,ci,ch,cs,fs⟩:=st
  refine ⟨_,?_,hI⟩
  simp only [spec_l15Right_l1]
  rw [ifF (decide_eq_false (by omega))])
 rw [e1,Option.bind_some]
 exact ⟨_,_,rfl,e3,e2⟩
theorem size15_ok {b:List Int} (hb:b.length≤1000000000):∃ x,spec_l15Size b=some x∧0≤x∧x≤10:=by
 unfold spec_l15Size
 have e:((b.length:Int)).tdiv 30=((b.length / 30:Nat):Int):=tdivK _ 30
 have hd:b.length / 30≤b.length:=Nat.div_le_self _ _
 rw [e,wk64 (x:=((b.length / 30:Nat):Int)) (by omega) (by omega),wk64 (x:=3+((b.length / 30:Nat):Int)) (by omega) (by omega)]
 split
 ·exact ⟨_,rfl,by decide,by decide⟩
 ·rename_i h
  simp only [decide_eq_true_eq] at h
  exact ⟨_,rfl,by omega,by omega⟩
theorem drawStore_ok {b:List Int} (hb:b.length≤1000000000):∃ s,spec_DrawRightStore b=some s∧qW s=true:=by
 unfold spec_DrawRightStore
 obtain ⟨c,h1,h2⟩:=l01New_ok hb
 obtain ⟨x,g1,g2,g3⟩:=size15_ok hb
 obtain ⟨y,c1,k1,k2,k3,k4,k5⟩:=l01Below_ok hb (c:=⟨c.b,c.i,c.h⟩) h2 (n:=x) (by omega)
 have hy:y≤10:=by
  by_cases q:0 < x
  ·have:=k3 q
   omega
  ·have:=k4 (by omega)
   omega
 obtain ⟨s,c2,s1,s2,s3⟩:=right_ok hb (c:=⟨c1.b,c1.i,c1.h⟩) k5 (n:=2+y) (by omega) (by omega)
 rw [h1,Option.bind_some,g1,Option.bind_some,k1,Option.bind_some,wk64 (by simp only; omega) (by simp only; omega)]
 simp only
 rw [s1,Option.bind_some]
 exact ⟨_,rfl,s2⟩
end Go.TV.F
namespace Go.TV.F
open Go.TV
theorem sumOf_app {α:Type} (w:α→Nat):∀ (l m:List α),zP w (l++m)=zP w l+zP w m
 | [],m=>by simp [zP]
 | x :: l,m=>by
  have:=sumOf_app w l m
  simp only [List.cons_append,zP,this]
  omega
theorem sumOf_range (f:Nat→Nat) (k:Nat):zP f (List.range (k+1))=zP f (List.range k)+f k:=by
 rw [List.range_succ,sumOf_app]
 simp [zP]
theorem sumOf_le1 {α:Type} {f g:α→Nat}:∀ {l:List α},(∀ x ∈ l,f x≤g x)→zP f l≤zP g l
 | [],_=>by simp [zP]
 | x :: l,h=>by
  have h1:=h x (by simp)
  have h2:=sumOf_le1 (l:=l) (fun y hy=>h y (List.mem_cons_of_mem _ hy))
  simp only [zP]
  omega
theorem sumOf_one {α:Type} {f g:α→Nat} {x0:α}:∀ {l:List α},x0 ∈ l→(∀ x ∈ l,f x≤g x)→f x0+1≤g x0→zP f l+1≤zP g l
 | [],h,_,_=>by simp at h
 | x :: l,h,h1,h2=>by
  have h3:=h1 x (by simp)
  simp only [zP]
  rcases List.mem_cons.1 h with rfl | h
  ·have:=sumOf_le1 (l:=l) (fun y hy=>h1 y (List.mem_cons_of_mem _ hy))
   omega
  ·have:=sumOf_one (l:=l) h (fun y hy=>h1 y (List.mem_cons_of_mem _ hy)) h2
   omega
theorem bodies_le {g:List (List Int)}:∀ {bs:List T_impl_Body},(∀ b ∈ bs,b.Ins.toNat < g.length∧liveN (clo g b.Ins.toNat) b=true)→bs.length≤zP (fun v=>(bs.filter (liveN (clo g v))).length) (List.range g.length)
 | [],_=>by simp
 | b :: bs,h=>by
  have ih:=bodies_le (g:=g) (bs:=bs) (fun c hc=>h c (List.mem_cons_of_mem _ hc))
  obtain ⟨h1,h2⟩:=h b (by simp)
  have:=sumOf_one (f:=fun v=>(bs.filter (liveN (clo g v))).length) (g:=fun v=>((b :: bs).filter (liveN (clo g v))).length) (x0:=b.Ins.toNat) (l:=List.range g.length) (List.mem_range.2 h1) (fun v _=>by
   simp only [List.filter_cons]
   split
   ·simp
   ·exact Nat.le_refl _) (by simp only [List.filter_cons,h2,if_true,List.length_cons]; omega)
  rw [List.length_cons]
  omega
theorem bodies_whole {w:T_impl_Weave} (h:WR w):w.Bodies.length≤whole w:=by
 unfold whole
 have:=bodies_le (g:=w.Parents) (bs:=w.Bodies) (fun b hb=>by
  have hst:=okF_mem h.o b hb
  have h1:=own_live h hb
  refine ⟨?_,h1⟩
  have hins:=stat_ins hst
  unfold stat at hst
  simp only [Bool.and_eq_true,decide_eq_true_eq] at hst
  omega)
 refine Nat.le_trans this (Nat.le_of_eq ?_)
 congr 1
 funext v
 unfold txt
 rw [List.length_map]
theorem bits_lt (s:Nat):∀ n:Nat,(bitsL s n).Pairwise (· < ·)∧∀ x ∈ bitsL s n,x < n
 | 0=>by simp [bitsL]
 | n+1=>by
  obtain ⟨h1,h2⟩:=bits_lt s n
  rw [bitsL_succ]
  split
  ·refine ⟨List.pairwise_append.2 ⟨h1,List.pairwise_singleton _ _,fun x hx y hy=>?_⟩,fun x hx=>?_⟩
   ·rw [List.mem_singleton.1 hy]
    exact h2 x hx
   ·rcases List.mem_append.1 hx with hx | hx
    ·have:=h2 x hx
     omega
    ·rw [List.mem_singleton.1 hx]
     omega
  ·exact ⟨h1,fun x hx=>by have:=h2 x hx; omega⟩
theorem log_falls {l:List T_impl_Commit} {vs:List Int} {c:Int}:(logR l vs c).Pairwise (fun a b=>b < a):=by
 unfold logR
 split
 ·rw [List.pairwise_reverse]
  unfold ints
  rw [List.pairwise_map]
  exact (bits_lt _ 64).1.imp (fun h=>by omega)
 ·exact List.Pairwise.nil
theorem mem_log {l:List T_impl_Commit} {vs:List Int} {c:Int} (h0:0≤c) (h1:c < l.length) (h2:commitsB l vs=true) {x:Int}:x ∈ logR l vs c↔∃ u:Nat,x=u∧u < 64∧(clo (graphC l) c.toNat).testBit u=true:=by
 unfold logR
 rw [if_pos (by simp only [Bool.and_eq_true,decide_eq_true_eq]; exact ⟨⟨h0,h1⟩,h2⟩),List.mem_reverse]
 exact bits_mem
theorem graph_get {l:List T_impl_Commit} {k:Nat} (h:k < l.length):(graphC l)[k]? = some l[k].Parents:=by
 unfold graphC
 rw [List.getElem?_map,List.getElem?_eq_getElem h]
 rfl
theorem touched_in {l:List T_impl_Commit} (hg:gOk (graphC l)=true) {id:Nat}:∀ (c:Nat),c < l.length→0≤idN (l.getD c bC).Names id→∃ x,x < l.length∧(clo (graphC l) c).testBit x=true∧tB l (l.getD x bC) id=true:=by
 intro c
 induction c using Nat.strongRecOn with
 | _ c ih =>
  intro hc hi
  have hgl:(graphC l).length=l.length:=by unfold graphC; simp
  have hcg:c < (graphC l).length:=by omega
  have hgc:(graphC l)[c]=(l.getD c bC).Parents:=by
   have:=graph_get hc
   rw [List.getElem?_eq_getElem hcg] at this
   injection this with this
   rw [this,zU hc]
  cases q:tB l (l.getD c bC) id with
  | true=>exact ⟨c,hc,clo_self hg hcg,q⟩
  | false =>
   unfold tB at q
   rw [Bool.or_eq_false_iff,Bool.and_eq_false_iff] at q
   obtain ⟨q1,q2⟩:=q
   have hne:(l.getD c bC).Parents≠[]:=by
    intro e
    rw [e] at q1
    rcases q1 with q1 | q1
    ·simp at q1
    ·rw [decide_eq_false_iff_not] at q1
     omega
   obtain ⟨p,hp⟩:=List.exists_mem_of_ne_nil _ hne
   have hrow:=gOk_at hg hcg
   rw [hgc] at hrow
   have hpr:=rise_mem hrow.2 hp
   have hu:unlikeB (l.getD c bC).Names (l.getD p.toNat bC).Names id=false:=by
    have:=List.any_eq_false.1 q2 p hp
    simpa using this
   have hpi:0≤idN (l.getD p.toNat bC).Names id:=by
    unfold unlikeB at hu
    by_cases z:idN (l.getD p.toNat bC).Names id < 0
    ·rw [if_pos (by simp only [Bool.or_eq_true,decide_eq_true_eq]; omega)] at hu
     rw [Bool.or_eq_false_iff,decide_eq_false_iff_not] at hu
     omega
    ·omega
   obtain ⟨x,x1,x2,x3⟩:=ih p.toNat (by omega) (by omega) hpi
   refine ⟨x,x1,?_,x3⟩
   rw [clo_test hg hcg,Bool.or_eq_true]
   right
   rw [hgc]
   exact List.any_eq_true.2 ⟨p,hp,x2⟩
theorem idN_mem {l:List T_impl_Name} {n:T_impl_Name} (h:n ∈ l):0≤idN l n.Id:=by
 have h0:=fidx_ge (fun m:T_impl_Name=>m.Id == n.Id) l
 by_cases q:0≤idN l n.Id
 ·exact q
 ·have:=(fidx_none (fun m:T_impl_Name=>m.Id == n.Id) l).1 (by unfold idN at q; omega) n h
  simp at this
theorem pathN_mem2 {l:List T_impl_Name} {n:T_impl_Name} (h:n ∈ l):0≤pathN l n.Path:=by
 have h0:=fidx_ge (fun m:T_impl_Name=>m.Path.toList == n.Path.toList) l
 by_cases q:0≤pathN l n.Path
 ·exact q
 ·have:=(fidx_none (fun m:T_impl_Name=>m.Path.toList == n.Path.toList) l).1 (by unfold pathN at q; omega) n h
  simp at this
theorem fileLog_ok {s:T_impl_Store} (h:qW s=true) {c:Nat} (hc:c < s.Commits.length) {n:T_impl_Name} (hn:n ∈ (s.Commits.getD c bC).Names) :
  (fileLogR s n.Path c).2=0∧(fileLogR s n.Path c).1≠[]∧(fileLogR s n.Path c).1.Pairwise (fun a b=>b < a)∧(∀ x ∈ (fileLogR s n.Path c).1,x≤c)∧(fileLogR s n.Path c).1.length≤64:=by
 have hcs:=(storeB_cs h).2
 have hg:=storeB_g h
 have h40:=storeB_len40 h
 have hgl:(graphC s.Commits).length=s.Commits.length:=by unfold graphC; simp
 have hq:=pathN_mem2 hn
 have hf:findR s c n.Path=((s.Commits.getD c bC).Names.getD (pathN (s.Commits.getD c bC).Names n.Path).toNat bN,0):=by
  unfold findR
  rw [if_pos h,if_pos (by simp only [Bool.and_eq_true,decide_eq_true_eq]; omega)]
  simp only [Int.toNat_natCast]
  rw [if_neg (by omega)]
 obtain ⟨m1,m2⟩:=pathN_mem (l:=(s.Commits.getD c bC).Names) (p:=n.Path) (by omega)
 have hci:=cm_name h (p:=(c:Int)) (by simpa using hc) (n:=(s.Commits.getD c bC).Names.getD (pathN (s.Commits.getD c bC).Names n.Path).toNat bN) (by simpa using m1)
 have h12:=storeB_len h
 have hlen:=fileLogR_len s n.Path c
 unfold fileLogR at hlen ⊢
 rw [hf] at hlen ⊢
 rw [if_neg (by simp)] at hlen ⊢
 refine ⟨rfl,?_,log_falls.filter _,fun x hx=>?_,hlen⟩
 ·have hi:=idN_mem m1
  have e:((s.Commits.getD c bC).Names.getD (pathN (s.Commits.getD c bC).Names n.Path).toNat bN).Id=(((s.Commits.getD c bC).Names.getD (pathN (s.Commits.getD c bC).Names n.Path).toNat bN).Id.toNat:Int):=by omega
  rw [e] at hi
  obtain ⟨x,x1,x2,x3⟩:=touched_in hg c hc hi
  have:(x:Int) ∈ (logR s.Commits (sizesF s) c).filter (fun x=>(touchR s.Commits (s.Commits.getD x.toNat bC)).contains ((s.Commits.getD c bC).Names.getD (pathN (s.Commits.getD c bC).Names n.Path).toNat bN).Id):=by
   refine List.mem_filter.2 ⟨(mem_log (by omega) (by omega) hcs).2 ⟨x,rfl,by omega,by simpa using x2⟩,?_⟩
   rw [List.contains_iff_mem]
   unfold touchR
   exact List.mem_map.2 ⟨_,List.mem_filter.2 ⟨List.mem_range.2 (by omega),by simpa using x3⟩,e.symm⟩
  intro e2
  simp only at e2
  rw [e2] at this
  cases this
 ·have hx:=(List.mem_filter.1 hx).1
  obtain ⟨u,rfl,_,hu⟩:=(mem_log (by omega) (by omega) hcs).1 hx
  have:=clo_le hg (by simp; omega) hu
  simp only [Int.toNat_natCast] at this
  omega
theorem all_inl {γ:Type} {body:Int→Option (Int⊕(γ⊕Unit))} (n:Nat) (hs:∀ k,k < n→body (k:Int)=some (.inl ((k+1:Nat):Int))) (he:body (n:Int)=some (.inr (.inr ()))):zG body 0=some (.inr ()):=
 loopM_at (body:=body) (fun k=>(k:Int)) n hs he
theorem wkA (a b:Nat) (h:a+b≤1000000000):wk .i64 ((a:Int)+(b:Int))=((a+b:Nat):Int):=by
 rw [wk64 (by omega) (by omega)]
 omega
theorem logLoop {c:Nat} {r:List Int×Int} (hp:r.1.Pairwise (fun a b=>b < a)) (hl:∀ x ∈ r.1,x≤c) (h64:r.1.length≤64):zG (fun (s':Int)=>laws_FnStats_l3 c r s') 0=some (.inr ()):=by
 refine all_inl r.1.length (fun k hk=>?_) ?_
 ·unfold laws_FnStats_l3
  have hx:r.1[k]? = some r.1[k]:=List.getElem?_eq_getElem hk
  have e1:(if decide ((k:Int) > 0)=true then (zH r.1 (wk .i64 ((k:Int) - 1))).bind fun x_2=>(zH r.1 k).bind fun x_3=>some (decide (x_2≤x_3)) else some false)=some false:=by
   by_cases q:0 < k
   ·have ek:(k:Int) - 1=((k - 1:Nat):Int):=by omega
    rw [ifT (decide_eq_true (by omega)),wk64 (by omega) (by omega),ek,zF,List.getElem?_eq_getElem (show k - 1 < r.1.length by omega),zF,hx]
    simp only [Option.bind_some]
    rw [decide_eq_false]
    have:=List.pairwise_iff_getElem.1 hp (k - 1) k (by omega) hk (by omega)
    omega
   ·rw [ifF (decide_eq_false (by omega))]
  rw [ifT (by simpa using hk),e1,Option.bind_some,ifF (by rfl),zF,hx,Option.bind_some,Option.bind_some,ifF (decide_eq_false (by have:=hl _ (List.getElem_mem hk); omega)),wkS k (by omega)]
 ·unfold laws_FnStats_l3
  rw [ifF (by simp)]
theorem namesLoop {s:T_impl_Store} (h:qW s=true) {c:Nat} (hc:c < s.Commits.length):zG (fun (s':Int)=>laws_FnStats_l2 s c s') 0=some (.inr ()):=by
 have hn:=(storeB_cs h).1.n (s.Commits.getD c bC) (by rw [zU hc]; exact List.getElem_mem hc)
 have hx:s.Commits[c]? = some (s.Commits.getD c bC):=by rw [zU hc]; exact List.getElem?_eq_getElem hc
 refine all_inl (s.Commits.getD c bC).Names.length (fun k hk=>?_) ?_
 ·unfold laws_FnStats_l2
  have hm:=List.getElem_mem hk
  obtain ⟨h1,h2,h3,h4,h5⟩:=fileLog_ok h hc hm
  have hlen:0 < (fileLogR s (s.Commits.getD c bC).Names[k].Path c).1.length:=List.length_pos_iff.2 h2
  have e1:impl_FileLog (T_impl_Store.mk s.Commits s.Files) (s.Commits.getD c bC).Names[k].Path c=_:=fileLogI (storeB_sm h) _ _
  rw [zF,hx,Option.bind_some,ifT (by simpa using hk),zF,List.getElem?_eq_getElem hk,Option.bind_some,e1,Option.bind_some,ifF (by rw [h1]; rfl),Option.bind_some,ifF (beq_eq_false_iff_ne.2 (by omega)),logLoop h3 h4 h5,Option.bind_some]
  unfold laws_FnStats_j4
  rw [wkS k (by omega)]
 ·unfold laws_FnStats_l2
  rw [zF,hx,Option.bind_some,ifF (by simp)]
theorem fnStats_true {b:List Int}:laws_FnStats b=some true:=by
 unfold laws_FnStats
 by_cases q:b.length > 1048576
 ·rw [big_yes q]
  rfl
 rw [big_no q,Option.bind_some,ifF (by rfl)]
 obtain ⟨s,e1,h⟩:=drawStore_ok (b:=b) (by omega)
 have hs:=storeB_sm h
 have h12:=storeB_len h
 have h40:=storeB_len40 h
 have e2:impl_StatsOf (T_impl_Store.mk s.Commits s.Files)=some (statR s):=statsI_eq hs
 rw [e1,Option.bind_some,e2,Option.bind_some]
 have hB:∀ k,k≤s.Files.length→zP (fun w:T_impl_Weave=>w.Bodies.length) (s.Files.take k)≤3600∧zP (fun w:T_impl_Weave=>w.Parents.length) (s.Files.take k)≤480∧zP whole (s.Files.take k)≤144000∧zP (fun w:T_impl_Weave=>w.Bodies.length) (s.Files.take k)≤zP whole (s.Files.take k):=by
  intro k hk
  have hm:∀ w ∈ s.Files.take k,WR w:=fun w hw=>storeB_file h (List.mem_of_mem_take hw)
  have hlen:(s.Files.take k).length≤12:=by rw [List.length_take]; omega
  have h1:=sumOf_leK (w:=fun w:T_impl_Weave=>w.Bodies.length) (B:=300) (a:=s.Files.take k) (fun w hw=>(hm w hw).n)
  have h2:=sumOf_leK (w:=fun w:T_impl_Weave=>w.Parents.length) (B:=40) (a:=s.Files.take k) (fun w hw=>gOk_len (hm w hw).g)
  have h3:=sumOf_leK (w:=whole) (B:=12000) (a:=s.Files.take k) (fun w hw=>whole_le (hm w hw))
  exact ⟨by omega,by omega,by omega,sumOf_le1 (fun w hw=>bodies_whole (hm w hw))⟩
 have hT:∀ (f:T_impl_Weave→Nat) (k:Nat) (w:T_impl_Weave),s.Files[k]? = some w→zP f (s.Files.take (k+1))=zP f (s.Files.take k)+f w:=by
  intro f k w hw
  rw [List.take_add_one,hw,sumOf_app]
  simp [zP]
 have inner:∀ (k:Nat) (hk:k < s.Files.length) (wh:Nat),wh≤1000000→zG (fun (s':Int×Int)=>laws_FnStats_l5 s k s'.1 s'.2) ((wh:Int),0)=some ((wh+whole s.Files[k]:Nat):Int):=by
  intro k hk wh hwh
  have hW:=storeB_file h (List.getElem_mem hk)
  have hg:=gOk_len hW.g
  have hw12:=whole_le hW
  have part:∀ j,j≤s.Files[k].Parents.length→zP (fun v=>(txt s.Files[k] v).length) (List.range j)≤12000:=fun j hj=>by
   have:=sumOf_leK (w:=fun v=>(txt s.Files[k] v).length) (B:=300) (a:=List.range j) (fun v _=>txt_len hW v)
   rw [List.length_range] at this
   omega
  have:=loopM_at (body:=fun (s':Int×Int)=>laws_FnStats_l5 s k s'.1 s'.2) (r:=((wh+whole s.Files[k]:Nat):Int)) (fun j=>(((wh+zP (fun v=>(txt s.Files[k] v).length) (List.range j):Nat):Int),(j:Int))) s.Files[k].Parents.length (fun j hj=>by
   have hp:=part j (by omega)
   have htl:=txt_len hW j
   simp only [laws_FnStats_l5]
   have ee:spec_Extract (T_impl_Weave.mk s.Files[k].Parents s.Files[k].Bodies) (j:Int)=some (txt s.Files[k] j,0):=by
    have:=extractS hW (v:=(j:Int)) (by omega) (by omega)
    rw [Int.toNat_natCast] at this
    exact this
   rw [zF,List.getElem?_eq_getElem hk,Option.bind_some,ifT (by simpa using hj),ee,Option.bind_some,wkS j (by omega),sumOf_range,wkA _ _ (show wh+zP (fun v=>(txt s.Files[k] v).length) (List.range j)+(txt s.Files[k] j).length≤1000000000 by omega),Nat.add_assoc]) (by
   simp only [laws_FnStats_l5]
   rw [zF,List.getElem?_eq_getElem hk,Option.bind_some,ifF (by simp)]
   rfl)
  simpa [zP] using this
 have outer:=loopM_at (body:=fun (s':Int×Int×Int×Int)=>laws_FnStats_l4 s s'.1 s'.2.1 s'.2.2.1 s'.2.2.2) (r:=(((zP (fun w:T_impl_Weave=>w.Bodies.length) s.Files:Nat):Int),((zP (fun w:T_impl_Weave=>w.Parents.length) s.Files:Nat):Int),((zP whole s.Files:Nat):Int)))
  (fun k=>(((zP (fun w:T_impl_Weave=>w.Bodies.length) (s.Files.take k):Nat):Int),((zP (fun w:T_impl_Weave=>w.Parents.length) (s.Files.take k):Nat):Int),((zP whole (s.Files.take k):Nat):Int),(k:Int))) s.Files.length (fun k hk=>by
  obtain ⟨b1,b2,b3,_⟩:=hB k (by omega)
  have hx:s.Files[k]? = some s.Files[k]:=List.getElem?_eq_getElem hk
  have hW:=storeB_file h (List.getElem_mem hk)
  have hg:=gOk_len hW.g
  have hn:=hW.n
  simp only [laws_FnStats_l4]
  rw [ifT (by simpa using hk),zF,hx,Option.bind_some,inner k hk _ (by omega),Option.bind_some]
  unfold laws_FnStats_j5
  rw [wkS k (by omega),hT _ k _ hx,hT _ k _ hx,hT _ k _ hx,wkA _ _ (by omega),wkA _ _ (by omega)]) (by
  simp only [laws_FnStats_l4]
  rw [ifF (by simp),List.take_length])
 have outer2:zG (fun (s':Int×Int×Int×Int)=>laws_FnStats_l4 s s'.1 s'.2.1 s'.2.2.1 s'.2.2.2) (0,0,0,0)=_:=outer
 rw [outer2,Option.bind_some]
 unfold laws_FnStats_j1
 obtain ⟨_,_,_,hle⟩:=hB s.Files.length (Nat.le_refl _)
 rw [List.take_length] at hle
 have hst:statR s=(⟨s.Commits.length,s.Files.length,((zP (fun w:T_impl_Weave=>w.Parents.length) s.Files:Nat):Int),((zP (fun w:T_impl_Weave=>w.Bodies.length) s.Files:Nat):Int),((zP whole s.Files:Nat):Int),((zP bytesW s.Files:Nat):Int)⟩,true):=by
  unfold statR
  rw [if_pos h]
 rw [hst]
 simp only [Bool.not_true,bne_self_eq_false,Bool.false_eq_true,if_false,Option.bind_some]
 rw [ifF (decide_eq_false (by omega))]
 have last:zG (fun (s':Int)=>laws_FnStats_l1 s s') 0=some (.inr ()):=all_inl s.Commits.length (fun k hk=>by
  unfold laws_FnStats_l1
  rw [ifT (by simpa using hk),namesLoop h hk,Option.bind_some]
  unfold laws_FnStats_j3
  rw [wkS k (by omega)]) (by
  unfold laws_FnStats_l1
  rw [ifF (by simp)])
 rw [last,Option.bind_some]
 rfl
end Go.TV.F
