/- Memory told as trees, part 2. -/
import Derived.Test.YtmoglghkjfjalaaGreatKFnExactFileLogT1
import Derived.Laws.BytesString
import Derived.Laws.IdiomCopy
import Derived.Laws.Append
set_option linter.unusedVariables false
set_option linter.unusedSimpArgs false
set_option maxHeartbeats 8000000
set_option maxRecDepth 100000
namespace Go.TV
theorem RepRows.dropS {w:World} {D:CS} {n b o:Nat}:∀ (l:Nat) (rs:List (List V)) (k:Nat) (S:CS),RepRows w D n b o rs k S→∃ S',RepRows w D n b o (rs.drop l) (k+l) S'∧sub S' S
 | 0,_,_,S,h=>⟨S,by simpa using h,qA S⟩
 | l+1,[],_,S,h=>⟨S,h,qA S⟩
 | l+1,r :: rs,k,S,h=>by
  obtain ⟨S1,S2,h1,h2,h3,h4,rfl⟩:=h
  obtain ⟨S',g1,g2⟩:=RepRows.dropS l rs (k+1) S2 h3
  refine ⟨S',?_,qZ g2 (sub_r _ _)⟩
  rw [show k+1+l=k+(l+1) by omega] at g1
  simpa using g1
theorem RepRows.takeS {w:World} {D:CS} {n b o:Nat}:∀ (l:Nat) (rs:List (List V)) (k:Nat) (S:CS),RepRows w D n b o rs k S→∃ S',RepRows w D n b o (rs.take l) k S'∧sub S' S
 | 0,_,_,_,_=>⟨emp,by simp [RepRows],fun _ _ q=>q.elim⟩
 | l+1,[],_,S,h=>⟨S,h,qA S⟩
 | l+1,r :: rs,k,S,h=>by
  obtain ⟨S1,S2,h1,h2,h3,h4,rfl⟩:=h
  obtain ⟨S',g1,g2⟩:=RepRows.takeS l rs (k+1) S2 h3
  exact ⟨cup S1 S',⟨S1,S',h1,h2,g1,dj_sub_r h4 g2,rfl⟩,fun x y q=>q.elim .inl (fun q=>.inr (g2 x y q))⟩
theorem RepRows.shiftS {w:World} {D:CS} {n b o:Nat} (l:Nat):∀ (rs:List (List V)) (k:Nat) (S:CS),RepRows w D n b o rs (k+l) S→RepRows w D n b (o+l * n) rs k S
 | [],_,_,h=>h
 | r :: rs,k,S,h=>by
  obtain ⟨S1,S2,h1,h2,h3,h4,h5⟩:=h
  refine ⟨S1,S2,h1,?_,RepRows.shiftS l rs (k+1) S2 (by rw [show k+1+l=k+l+1 by omega]; exact h3),h4,h5⟩
  rw [show o+l * n+k * n=o+(k+l) * n by rw [Nat.add_mul]; omega]
  exact h2
theorem RepRow.vals {w:World} {D:CS} {rd:Nat→Option Value}:∀ (r:List V) (k:Nat) (S:CS),RepRow w D rd r k S→∃ us:List Value,us.length=r.length∧(∀ j u,us[j]? = some u→rd (k+j)=some u)
 | [],_,_,_=>⟨[],rfl,fun j u h=>by simp at h⟩
 | v :: r,k,S,h=>by
  obtain ⟨u,S1,S2,h1,h2,h3,h4,h5⟩:=h
  obtain ⟨us,g1,g2⟩:=RepRow.vals r (k+1) S2 h3
  refine ⟨u :: us,by simp [g1],fun j x hj=>?_⟩
  cases j with
  | zero=>simp at hj; subst hj; exact h1
  | succ j =>
   have:=g2 j x (by simpa using hj)
   rw [show k+(j+1)=k+1+j by omega]
   exact this
theorem RepRows.flat {w:World} {D:CS} {n b o:Nat}:∀ (rs:List (List V)) (k:Nat) (S:CS),RepRows w D n b o rs k S →
  RepRow w D (fun j=>w.cell? (ad b (o+j))) rs.flatten (k * n) S∧rs.flatten.length=rs.length * n∧∀ r ∈ rs,r.length=n
 | [],_,_,h=>⟨h,by simp,fun r hr=>by simp at hr⟩
 | r :: rs,k,S,h=>by
  obtain ⟨S1,S2,h1,h2,h3,h4,rfl⟩:=h
  obtain ⟨g1,g2,g3⟩:=RepRows.flat rs (k+1) S2 h3
  refine ⟨?_,?_,fun q hq=>?_⟩
  ·rw [List.flatten_cons]
   refine RepRow.join r rs.flatten (k * n) S1 S2 (RepRow.shift r _ _ 0 (k * n) S1 h2 (fun q _=>?_)) ?_ h4
   ·simp only [rdm,Nat.zero_add]
    rw [Nat.add_assoc]
   ·rw [h1]
    rw [Nat.add_mul,Nat.one_mul] at g1
    exact g1
  ·rw [List.flatten_cons,List.length_append,g2,h1,List.length_cons,Nat.add_mul,Nat.one_mul]
   omega
  ·rcases List.mem_cons.1 hq with rfl | hq
   ·exact h1
   ·exact g3 q hq
def Env.rows (e:Env):C→Option (Nat×List (List V))
 | .v (.list _ n rows)=>some (n,rows)
 | .ref i p=>match e.node i p with | some (.list true n rows)=>some (n,rows) | _=>none
 | .part i p m lo hi=>match e.node i p with | some (.list true n rows)=>if n=m then some (n,(rows.drop lo).take (hi - lo)) else none | _=>none
 | _=>none
section
variable {gG:GG} {c:Ctx gG} {e e':Env} {a:Act} {w:World} {D:CS} {hs:Nat→Value} {S:CS} {X:Cfg} {o:Oper}
theorem StD.rows (h:StD c e a w D hs S) {k:C} {n:Nat} {rows:List (List V)} {u:Value} (hk:e.rows k=some (n,rows)) (hu:CRep w D hs e.nx e.ob k u) :
  ∃ A cap,u=.slice A rows.length cap∧(((A=none∨∃ y,k=.v y)∧rows=[])∨∃ b o S1,A=some (ad b o)∧RepRows w D n b o rows 0 S1∧sub S1 S∧sub (rng b o (rows.length * n)) (cup D S)):=by
 cases k with
 | v y =>
  cases y with
  | list own m rs =>
   injection hk with hk
   injection hk with h1 h2
   subst h1
   subst h2
   rcases hu with ⟨rfl,q,_⟩ | ⟨b,o,cap,S1,rfl,h3,h4,h5⟩
   ·obtain ⟨A,rfl⟩:=nilish_len q
    exact ⟨A,0,rfl,.inl ⟨.inr ⟨_,rfl⟩,rfl⟩⟩
   ·refine ⟨_,cap,rfl,.inr ⟨b,o,S1,rfl,h4,?_⟩⟩
    have hcn:rs.length * m≤cap * m:=Nat.mul_le_mul_right m h3
    cases own with
    | true =>
     obtain ⟨_,_,h6⟩:=h5
     have:=emp_r h6
     subst this
     refine ⟨fun _ _ q=>q.elim,fun x y q=>?_⟩
     have:(rng b o (cap * m)) x y:=⟨q.1,q.2.1,by have:=q.2.2; omega⟩
     rw [emp_l h6] at this
     exact this.elim
    | false=>obtain ⟨rfl,_,h6⟩:=h5; exact ⟨fun _ _ q=>q.elim,fun x y q=>.inl (h6 x y q)⟩
  | _=>cases hk
 | ref i p =>
  simp only [Env.rows] at hk
  split at hk
  case h_2=>cases hk
  rename_i m rs hn
  injection hk with hk
  injection hk with h1 h2
  subst h1
  subst h2
  obtain ⟨v,k1,k2⟩:=h.lnode hn
  obtain ⟨u1,g1,_,rfl⟩:=hu.2 v _ k1 k2
  obtain ⟨u2,Sx,k3,k4,k5⟩:=h.node k1 k2
  rw [g1] at k3
  injection k3 with k3
  subst k3
  rcases k4 with ⟨rfl,hx,_⟩ | ⟨b,o,cap,S1,hx,h3,h4,_,_,rfl⟩
  ·exact ⟨none,0,nilish_own hx,.inl ⟨.inl rfl,rfl⟩⟩
  ·have hcn:rs.length * m≤cap * m:=Nat.mul_le_mul_right m h3
   exact ⟨_,cap,hx,.inr ⟨b,o,S1,rfl,h4,fun x y q=>k5 x y (.inr q),fun x y q=>.inr (k5 x y (.inl ⟨q.1,q.2.1,by have:=q.2.2; omega⟩))⟩⟩
 | part i p m lo hi =>
  simp only [Env.rows] at hk
  split at hk
  case h_2=>cases hk
  rename_i n' rs hn
  split at hk
  case isFalse=>cases hk
  rename_i hm
  subst hm
  injection hk with hk
  injection hk with h1 h2
  subst h1
  subst h2
  obtain ⟨v,k1,k2⟩:=h.lnode hn
  obtain ⟨u1,g1,_,⟨A,len,cap,A',cap',q1,q2,q3,q4,q5,q6,q7⟩⟩:=hu.2 v _ k1 k2
  obtain ⟨u2,Sx,k3,k4,k5⟩:=h.node k1 k2
  rw [g1] at k3
  injection k3 with k3
  subst k3
  rcases k4 with ⟨rfl,hx,_⟩ | ⟨b,o,cap2,S1,hx,h3,h4,_,_,rfl⟩
  ·rw [nilish_own hx] at q1
   injection q1 with r1 r2 r3
   subst r1
   subst r2
   have:hi - lo=0:=by omega
   rw [this] at q6 ⊢
   rcases q7 with ⟨_,rfl,_⟩ | ⟨_,_,_,q8,_⟩
   ·exact ⟨none,cap',by rw [q6]; simp,.inl ⟨.inl rfl,by simp⟩⟩
   ·cases q8
  ·rw [hx] at q1
   injection q1 with r1 r2 r3
   subst r2
   subst r3
   have hlen:((rs.drop lo).take (hi - lo)).length=hi - lo:=by simp; omega
   rcases q7 with ⟨q7,_,_⟩ | ⟨b',o1,o2,q8,q9,q10⟩
   ·rw [q7] at r1
    cases r1
   ·rw [q8] at r1
    injection r1 with r1
    have eb:b=b':=by injection r1
    have eo:o=o1:=by injection r1
    subst eb
    subst eo
    subst q9
    by_cases hz:hi - lo=0
    ·refine ⟨_,cap',by rw [q6,hlen],.inr ⟨b,o2,emp,rfl,?_,fun _ _ q=>q.elim,fun x y q=>?_⟩⟩
     ·rw [hz]
      simp [RepRows]
     ·rw [hlen,hz,Nat.zero_mul] at q
      have h1:=q.2.2
      have h2:=q.2.1
      omega
    ·obtain ⟨T1,t1,t2⟩:=RepRows.dropS lo rs 0 S1 h4
     obtain ⟨T2,t3,t4⟩:=RepRows.takeS (hi - lo) _ _ _ (RepRows.shiftS lo (rs.drop lo) 0 T1 t1)
     rw [← q10 (by omega)] at t3
     refine ⟨_,cap',by rw [q6,hlen],.inr ⟨b,o2,T2,rfl,t3,fun x y q=>k5 x y (.inr (t2 x y (t4 x y q))),fun x y q=>?_⟩⟩
     rw [hlen,q10 (by omega)] at q
     refine .inr (k5 x y (.inl ⟨q.1,by have:=q.2.1; omega,?_⟩))
     have h1:lo * n'+(hi - lo) * n'≤cap2 * n':=by rw [← Nat.add_mul]; exact Nat.mul_le_mul_right _ (by omega)
     have:=q.2.2
     omega
 | _=>cases hk
def bytesOf:List (List V)→Option (List Int)
 | []=>some []
 | r :: rs=>match r with
  | [.sc (.int .u8 n)]=>(bytesOf rs).map fun l=>n :: l
  | _=>none
def mkS (l:List Int):ByteArray:=⟨(l.map fun n=>UInt8.ofNat n.toNat).toArray⟩
theorem foldl_mkS:∀ (l:List Int) (s:ByteArray),l.foldl (fun r n=>r.push (UInt8.ofNat n.toNat)) s=s++mkS l
 | [],s=>by
  apply ByteArray.ext
  simp [mkS,ByteArray.data_append]
 | n :: l,s=>by
  rw [List.foldl_cons,foldl_mkS l]
  apply ByteArray.ext
  simp [mkS,ByteArray.data_append,ByteArray.data_push]
theorem bytes_rep {n b o':Nat}:∀ (rows:List (List V)) (k:Nat) (S1:CS) (l:List Int),RepRows w D n b o' rows k S1→bytesOf rows=some l→(rows≠[]→n=1)∧l.length=rows.length ∧
  ∀ j v,(l.map (Value.int .u8))[j]? = some v→w.cell? (ad b (o'+(k+j)))=some v
 | [],k,S1,l,h,hl=>by
  injection hl with hl
  subst hl
  exact ⟨fun q=>absurd rfl q,rfl,fun j v q=>by simp at q⟩
 | r :: rs,k,S1,l,h,hl=>by
  simp only [bytesOf] at hl
  split at hl
  case h_2=>cases hl
  rename_i z
  obtain ⟨l',hl',rfl⟩:=Option.map_eq_some_iff.1 hl
  obtain ⟨S1,S2,h1,h2,h3,h4,h5⟩:=h
  have hn:n=1:=by simpa using h1.symm
  subst hn
  obtain ⟨g1,g2,g3⟩:=bytes_rep rs (k+1) S2 l' h3 hl'
  obtain ⟨u,T1,T2,f1,f2,_⟩:=h2
  refine ⟨fun _=>rfl,by simp [g2],fun j v hj=>?_⟩
  cases j with
  | zero =>
   simp at hj
   subst hj
   obtain ⟨rfl,_⟩:=f2
   simp only [rdm,Nat.add_zero] at f1
   rw [Nat.mul_one] at f1
   exact f1
  | succ j =>
   have:=g3 j v (by simpa using hj)
   rw [show k+1+j=k+(j+1) by omega] at this
   exact this
def isU8B (T:Nat→Option TyI) (t:Nat):Bool:=match T t with | some ⟨_,_,.int .u8,_⟩=>true | _=>false
def evConv (T:Nat→Option TyI) (o:Oper) (src dst:Nat) (x:Operand) (e:Env):Option Env:=
 (T src).bind fun s=>(T dst).bind fun d=>match s.kd,d.kd with
  | .int _,.int k=>(e.int x).bind fun n=>e.putO o.dst (.pl (.one (.v (.sc (.int k (k.wrap n))))))
  | .string,.string=>(e.sc x).bind fun
   | .string v=>e.putO o.dst (.pl (.one (.v (.sc (.string v)))))
   | _=>none
  | .slice es,.string=>if isU8B T es=true then (e.cl x).bind fun k=>(e.rows k).bind fun q=>(bytesOf q.2).bind fun l=>e.putO o.dst (.pl (.one (.v (.sc (.string (mkS l)))))) else none
  | .string,.slice ed=>if isU8B T ed=true then (e.sc x).bind fun
   | .string v=>e.newListO o 1 (v.data.toList.map fun b=>[.sc (.int .u8 b.toNat)])
   | _=>none else none
  | _,_=>none
theorem isU8 {X:Cfg} {t:Nat} (h:isU8B X.T t=true):X.P.underlying t=some (.int .u8):=by
 unfold isU8B at h
 split at h
 ·rename_i hT
  exact run_und_int (X.hT _ _ hT) rfl
 ·cases h
theorem frm_bytes (w:World) (e:TypeId) (s:ByteArray):Frm w (Lib.bytesWorld w e s) emp where
 os:=rfl
 tape:=rfl
 output:=rfl
 size:=by rw [Lib.bytesWorld_size]; omega
 blk:=fun k hk _=>Lib.bytesWorld_at_old w e s k hk
 cel:=fun b o' hb _=>⟨World.cell?_of_block (w:=w) (Lib.bytesWorld_at_old w e s b hb),World.frozen?_of_block (w:=w) (Lib.bytesWorld_at_old w e s b hb),by unfold metaB; rw [Lib.bytesWorld_at_old w e s b hb]⟩
end
end Go.TV
namespace Go.TV
section
variable {gG:GG} {c:Ctx gG} {e e':Env} {a:Act} {w:World} {D:CS} {hs:Nat→Value} {S:CS} {X:Cfg} {o:Oper}
theorem bytes_row {w:World} {D:CS} {rd:Nat→Option Value}:∀ (l:List UInt8) (k:Nat),(∀ j b,l[j]? = some b→rd (k+j)=some (.int .u8 b.toNat))→RepRow w D rd (l.map fun b=>[V.sc (.int .u8 b.toNat)]).flatten k emp
 | [],_,_=>rfl
 | b :: l,k,h=>by
  refine ⟨_,emp,emp,by have:=h 0 b rfl; simpa using this,⟨rfl,rfl,rfl⟩,bytes_row l (k+1) (fun j x hj=>?_),emp_dj emp,(cup_emp emp).symm⟩
  have:=h (j+1) x (by simpa using hj)
  rw [show k+1+j=k+(j+1) by omega]
  exact this
theorem evConv_ok (h:StD c e a w D hs S) {src dst:Nat} {x:Operand} (ho:o.op=.convert src dst x) (he:evConv X.T o src dst x e=some e'):Did X.P c o a w e':=by
 obtain ⟨s,h1,h2⟩:=zbi he
 obtain ⟨d,h3,h2⟩:=zbi h2
 have hsrc:=X.hT _ _ h1
 have hdst:=X.hT _ _ h3
 split at h2
 ·rename_i k1 k2 hk1 hk2
  obtain ⟨n,h4,h5⟩:=zbi h2
  obtain ⟨kz,hz⟩:=h.int h4
  refine h.did ?_ h5 (sc_rep rfl)
  have e1:=run_underlying (run_und_int hsrc hk1) w
  have e2:=run_underlying (run_und_int hdst hk2) w
  simp [execOp,ho,hz,convert,e1,e2,Conv.intToInt]
 ·rename_i hk1 hk2
  obtain ⟨v,h4,h5⟩:=zbi h2
  split at h5
  ·rename_i v
   have hx:=(h.sc h4).1
   refine h.did ?_ h5 (sc_rep rfl)
   have e1:=run_underlying (qY hsrc hk1) w
   have e2:=run_underlying (qY hdst hk2) w
   simp [execOp,ho,hx,convert,e1,e2]
  ·cases h5
 ·rename_i es hk1 hk2
  split at h2
  case isFalse=>cases h2
  rename_i hu8
  obtain ⟨k,h4,h2⟩:=zbi h2
  obtain ⟨⟨n,rows⟩,h5,h2⟩:=zbi h2
  obtain ⟨l,h6,h7⟩:=zbi h2
  obtain ⟨A,cap,g1,g2⟩:=h.rows h5 (h.cl h4)
  refine h.did (u:=.string (mkS l)) ?_ h7 (sc_rep rfl)
  have hc:=run_convert_bytes_string (P:=X.P) w src dst es A rows.length cap (jF hsrc hk1) (isU8 hu8) (qY hdst hk2)
  have hb:(Conv.bytesToString (.slice A rows.length cap)).run X.P w=.ok (.string (mkS l)) w:=by
   rcases g2 with ⟨_,rfl⟩ | ⟨b,o',S1,rfl,g3,_⟩
   ·injection h6 with h6
    subst h6
    cases A <;> rfl
   ·obtain ⟨f1,f2,f3⟩:=bytes_rep rows 0 S1 l g3 h6
    have:=run_bytesToString (P:=X.P) w (ad b o') rows.length cap l (by
     have:=run_loadCells_list (P:=X.P) w (ad b o') (l.map (Value.int .u8)) (fun j v q=>by rw [ad_add]; have:=f3 j v q; rwa [Nat.zero_add] at this)
     rw [List.length_map,f2] at this
     exact this)
    rw [this,foldl_mkS]
    congr 2
  simp only [execOp,ho,g1,Sem.run_bind]
  rw [hc,hb]
  rfl
 ·rename_i ed hk1 hk2
  split at h2
  case isFalse=>cases h2
  rename_i hu8
  obtain ⟨v,h4,h5⟩:=zbi h2
  split at h5
  case h_2=>cases h5
  rename_i v
  have hx:=(h.sc h4).1
  have hr:=Lib.run_convert_string_bytes (P:=X.P) w src dst ed v (qY hsrc hk1) (jF hdst hk2) (isU8 hu8)
  have hf:=frm_bytes w ed v
  have h':=h.world hf
  have hcs:(Lib.bytesCells w ed v).size=grownCap w v.size 0 ed:=by
   have:=grownCap_ge w v.size 0 ed
   simp only [Lib.bytesCells,Array.size_append,Array.size_map,Array.size_replicate]
   have:v.data.size=v.size:=rfl
   omega
  have hcell:∀ k,(Lib.bytesWorld w ed v).cell? (ad w.heap.size k)=(Lib.bytesCells w ed v)[k]?:=fun k=>by
   simp [World.cell?,ad,Lib.bytesWorld_at_new]
  have hfr:∀ k,k < (Lib.bytesCells w ed v).size→(Lib.bytesWorld w ed v).frozen? (ad w.heap.size k)=false:=fun k hk=>by
   show (match (Lib.bytesWorld w ed v).heap[w.heap.size]? with
    | some (.cells _ _ (lo,hi))=>decide (lo≤k) && decide (k < hi)
    | _=>false)=false
   rw [Lib.bytesWorld_at_new]
   have h1:decide ((Lib.bytesCells w ed v).size≤k)=false:=by simp; omega
   simp only [h1,Bool.false_and]
  have hge:=grownCap_ge w v.size 0 ed
  have hR:Rep (Lib.bytesWorld w ed v) D (.list true 1 (v.data.toList.map fun b=>[.sc (.int .u8 b.toNat)])) (.slice (some (ad w.heap.size 0)) v.size (grownCap w v.size 0 ed)) (cup (rng w.heap.size 0 (grownCap w v.size 0 ed * 1)) emp):=by
   have hvl:(v.data.toList.map fun b=>[V.sc (.int .u8 b.toNat)]).length=v.size:=by rw [List.length_map,Array.length_toList]; rfl
   refine .inr ⟨w.heap.size,0,grownCap w v.size 0 ed,emp,by rw [hvl],by rw [hvl]; exact hge,?_,?_,dj_emp _,rfl⟩
   ·refine RepRows.of_flat (rd:=fun j=>(Lib.bytesWorld w ed v).cell? (ad w.heap.size j)) _ 0 emp (bytes_row v.data.toList (0 * 1) (fun j b hj=>?_)) (fun r hr=>?_) (fun j _ _=>by rw [Nat.zero_add])
    ·have hl:j < v.data.size:=by have:=(List.getElem?_eq_some_iff.1 hj).1; simpa using this
     rw [Nat.zero_mul,Nat.zero_add,hcell]
     have hbj:v.data[j]? = some b:=by simpa using hj
     rw [Lib.bytesCells,Array.getElem?_append_left (by simpa using hl),Array.getElem?_map,hbj]
     rfl
    ·obtain ⟨b,_,rfl⟩:=List.mem_map.1 hr
     rfl
   ·intro k hk
    rw [Nat.zero_add,hcell,hfr k (by omega)]
    exact ⟨⟨_,Array.getElem?_eq_getElem (by omega)⟩,rfl⟩
  have hfresh:∀ x y,cup (rng w.heap.size 0 (grownCap w v.size 0 ed * 1)) emp x y→x=w.heap.size:=fun x y q=>q.elim (fun q=>q.1) (fun q=>q.elim)
  have:=h'.obj hR (fun x y p q=>by have:=h.ob.blt x y q; have:=hfresh x y p; omega) (fun x y p q=>by have:=h.Dl x y q; have:=hfresh x y p; omega)
   (fun x y q=>.inr (by rw [hfresh x y q]; exact h.fr.size))
  refine ⟨.slice (some (ad w.heap.size 0)) v.size (grownCap w v.size 0 ed),_,.inl ?_,D,_,_,this.putO h5 (ref_new (by simp))⟩
  simp only [execOp,ho,hx,Sem.run_bind]
  rw [hr]
  rfl
 ·cases h2
def evLen (T:Nat→Option TyI) (o:Oper) (t:Nat) (x:Operand) (e:Env):Option Env:=
 (T t).bind fun d=>match d.kd with
  | .slice _=>(e.cl x).bind fun k=>(e.rows k).bind fun q=>e.putO o.dst (.pl (.one (.v (.sc (.int .i64 q.2.length)))))
  | .string=>(e.sc x).bind fun
   | .string s=>e.putO o.dst (.pl (.one (.v (.sc (.int .i64 s.size)))))
   | _=>none
  | _=>none
theorem evLen_ok (h:StD c e a w D hs S) {t:Nat} {x:Operand} (ho:o.op=.call {callee:=.builtin .len,args:=#[x],argTypes:=#[t]}) (he:evLen X.T o t x e=some e'):Did X.P c o a w e':=by
 obtain ⟨d,h1,h2⟩:=zbi he
 have ht:=X.hT _ _ h1
 split at h2
 ·rename_i el hk
  obtain ⟨k,h4,h2⟩:=zbi h2
  obtain ⟨⟨n,rows⟩,h5,h6⟩:=zbi h2
  obtain ⟨A,cap,g1,g2⟩:=h.rows h5 (h.cl h4)
  have hu:=run_underlying (jF ht hk) w
  refine h.did ?_ h6 (sc_rep rfl)
  simp [execOp,ho,resolve,invoke,builtin,Builtin.len_,g1,hu,goInt]
 ·rename_i hk
  obtain ⟨v,h4,h5⟩:=zbi h2
  split at h5
  ·rename_i v
   have hx:=(h.sc h4).1
   have hu:=run_underlying (qY ht hk) w
   refine h.did ?_ h5 (sc_rep rfl)
   simp [execOp,ho,resolve,invoke,builtin,Builtin.len_,hx,hu,goInt]
  ·cases h5
 ·cases h2
def evMinMax (o:Oper) (mx:Bool) (x y:Operand) (e:Env):Option Env:=
 match e.sc x,e.sc y with
 | some (.int k n),some (.int _ m)=>e.putO o.dst (.pl (.one (.v (.sc (.int k (if mx=true then (if m > n then m else n) else (if m < n then m else n)))))))
 | _,_=>none
theorem evMin_ok (h:StD c e a w D hs S) {ts:Array TypeId} {x y:Operand} (ho:o.op=.call {callee:=.builtin .min,args:=#[x,y],argTypes:=ts}) (he:evMinMax o false x y e=some e'):Did X.P c o a w e':=by
 unfold evMinMax at he
 split at he
 ·rename_i k n k' m h1 h2
  have hx:=(h.sc h1).1
  have hy:=(h.sc h2).1
  refine h.did ?_ he (sc_rep rfl)
  simp [execOp,ho,resolve,invoke,builtin,Builtin.min_,Builtin.min2,hx,hy]
 ·cases he
theorem evMax_ok (h:StD c e a w D hs S) {ts:Array TypeId} {x y:Operand} (ho:o.op=.call {callee:=.builtin .max,args:=#[x,y],argTypes:=ts}) (he:evMinMax o true x y e=some e'):Did X.P c o a w e':=by
 unfold evMinMax at he
 split at he
 ·rename_i k n k' m h1 h2
  have hx:=(h.sc h1).1
  have hy:=(h.sc h2).1
  refine h.did ?_ he (sc_rep rfl)
  simp [execOp,ho,resolve,invoke,builtin,Builtin.max_,Builtin.max2,hx,hy]
 ·cases he
end
end Go.TV
namespace Go.TV
theorem cell_set_in {w:World} {b o:Nat} {us:List Value} (h:∀ k,k < us.length→∃ v,w.cell? (ad b (o+k))=some v) {k:Nat} {u:Value} (hk:us[k]? = some u):(w.setCells b o us).cell? (ad b (o+k))=some u:=by
 have hl:=(List.getElem?_eq_some_iff.1 hk).1
 have:=World.cell?_setCells_in b us o w (fun j hj=>by obtain ⟨v,hv⟩:=h j hj; exact Option.isSome_iff_exists.2 ⟨v,hv⟩) k hl
 rw [show ad b (o+k)=⟨b,o+k,none⟩ from rfl,this]
 rw [List.getElem?_eq_getElem hl] at hk
 exact hk
theorem meta_setCell (w:World) (a:Addr) (v:Value) (r:Nat):metaB (w.setCell a v) r=metaB w r:=by
 unfold metaB World.setCell
 simp only [Array.getElem?_modify]
 by_cases q:a.block=r
 ·simp only [q,if_true]
  cases h:w.heap[r]? with
  | none=>rfl
  | some o =>
   cases o with
   | cells c e f =>
    simp only [Option.map_some]
    cases a.spot <;> simp
   | _=>rfl
 ·simp [q]
theorem meta_setCells (b r:Nat):∀ (us:List Value) (o:Nat) (w:World),metaB (w.setCells b o us) r=metaB w r
 | [],_,_=>rfl
 | u :: us,o,w=>by rw [World.setCells,meta_setCells b r us,meta_setCell]
theorem same_set_out {w:World} {b o:Nat} {us:List Value} {b' o':Nat} (h:¬rng b o us.length b' o'):same w (w.setCells b o us) b' o':=by
 refine ⟨World.cell?_setCells_out b us o w _ (fun h1 _=>?_),World.frozen?_setCells b us o w _,meta_setCells b _ us o w⟩
 by_cases q:o' < o
 ·exact .inl q
 ·right
  show o+us.length≤o'
  by_cases q2:o+us.length≤o'
  ·exact q2
  ·exact absurd ⟨h1,by omega,by omega⟩ h
theorem setCells_meta (b:Nat):∀ (us:List Value) (o:Nat) (w:World),(w.setCells b o us).os=w.os∧(w.setCells b o us).tape=w.tape∧(w.setCells b o us).output=w.output∧(w.setCells b o us).heap.size=w.heap.size ∧
  ∀ k,k≠b→(w.setCells b o us).heap[k]? = w.heap[k]?
 | [],_,_=>⟨rfl,rfl,rfl,rfl,fun _ _=>rfl⟩
 | u :: us,o,w=>by
  obtain ⟨h1,h2,h3,h4,h5⟩:=setCells_meta b us (o+1) (w.setCell ⟨b,o,none⟩ u)
  rw [World.setCells]
  exact ⟨h1,h2,h3,by rw [h4]; simp [World.setCell],fun k hk=>(h5 k hk).trans (Go.RowKit.Below.heap_setCell _ _ _ _ hk)⟩
theorem frm_set (w:World) (b o:Nat) (us:List Value):us≠[]→Frm w (w.setCells b o us) (rng b o us.length):=fun hne=>by
 obtain ⟨h1,h2,h3,h4,h5⟩:=setCells_meta b us o w
 refine ⟨h1,h2,h3,by rw [h4]; exact Nat.le_refl _,fun k hk hn=>h5 k (fun q=>?_),fun b' o' _ hn=>same_set_out hn⟩
 subst q
 have:0 < us.length:=by cases us with | nil=>exact absurd rfl hne | cons _ _=>simp
 exact hn o ⟨rfl,Nat.le_refl _,by omega⟩
theorem over_eq {α:Type} (j:Nat) (xs l:List α):over j xs l=l.take j++(xs++l.drop (j+xs.length)):=by simp [over]
theorem RepRow.over {w:World} {D:CS} {rd:Nat→Option Value} {row:List V} {S:CS} {j m:Nat} (h:RepRow w D rd row 0 S) (hj:j+m≤row.length) :
  ∃ Sold G,S=cup Sold G∧dj Sold G∧(∀ k,j≤k→k < j+m→∃ u,rd k=some u) ∧
   ∀ (w':World) (D':CS) (rd':Nat→Option Value) (xs:List V) (T:CS),xs.length=m→sub D D'→sameOn w w' D→sameOn w w' G→(∀ k,k < row.length→(k < j∨j+m≤k)→rd' k=rd k) →
    RepRow w' D' rd' xs j T→dj T G→RepRow w' D' rd' (over j xs row) 0 (cup T G):=by
 have e1:row=row.take j++((row.drop j).take m++row.drop (j+m)):=by
  rw [← List.drop_drop,List.take_append_drop,List.take_append_drop]
 have e2:(row.take j).length=j:=by simp; omega
 have e3:((row.drop j).take m).length=m:=by simp; omega
 rw [e1] at h
 obtain ⟨S1,S2,h1,h2,h3,rfl⟩:=RepRow.split _ _ 0 S h
 obtain ⟨S3,S4,h4,h5,h6,rfl⟩:=RepRow.split _ _ _ S2 h2
 rw [e2] at h4 h5
 rw [e3] at h5
 simp only [Nat.zero_add] at h4 h5
 refine ⟨S3,cup S1 S4,cup_left _ _ _,dj_cup (dj_comm (dj_l h3)) h6,fun k hk1 hk2=>?_,fun w' D' rd' xs T hl hD hd hg hr hx hT=>?_⟩
 ·obtain ⟨us,g1,g2⟩:=RepRow.vals _ _ _ h4
  have hlt:k - j < us.length:=by rw [g1,e3]; omega
  have:=g2 (k - j) _ (List.getElem?_eq_getElem hlt)
  rw [show j+(k - j)=k by omega] at this
  exact ⟨_,this⟩
 ·rw [over_eq,hl]
  have k1:RepRow w' D' rd' (row.take j) 0 S1:=RepRow.frame hD hd _ _ _ 0 S1 h1 (qS hg (sub_l _ _)) (fun q _ hq=>hr q (by rw [e2] at hq; omega) (.inl (by rw [e2] at hq; omega)))
  have k2:RepRow w' D' rd' (row.drop (j+m)) (j+m) S4:=RepRow.frame hD hd _ _ _ (j+m) S4 h5 (qS hg (sub_r _ _)) (fun q hq1 hq2=>hr q (by simp at hq2; omega) (.inr hq1))
  have k3:=RepRow.join xs _ j T S4 hx (by rw [hl]; exact k2) (dj_r hT)
  have k4:=RepRow.join _ _ 0 S1 (cup T S4) k1 (by rw [e2,Nat.zero_add]; exact k3) (dj_cup (dj_comm (dj_l hT)) (dj_r h3))
  rw [cup_left] at k4
  exact k4
def V.isSc:V→Bool
 | .sc _=>true
 | _=>false
def C.killN (i:Nat):C→C
 | .ref k (s :: p)=>if k=i then .dead else .ref k (s :: p)
 | .part k (s :: p) n lo hi=>if k=i then .dead else .part k (s :: p) n lo hi
 | .addr k (s :: p) n r j=>if k=i then .dead else .addr k (s :: p) n r j
 | x=>x
def Ag.map (f:C→C):Ag C→Ag C
 | .one k=>.one (f k)
 | .agg ks=>.agg (ks.map f)
def Sl.map (f:C→C):Sl→Sl
 | .pl g=>.pl (g.map f)
 | .tup gs=>.tup (gs.map (Ag.map f))
def slMap (f:C→C):List (Nat×Sl)→List (Nat×Sl)
 | []=>[]
 | (t,s) :: r=>(t,s.map f) :: slMap f r
theorem lk_slMap {f:C→C} {t:Nat} {s:Sl}:∀ (sl:List (Nat×Sl)),lk t (slMap f sl)=some s→∃ s0,lk t sl=some s0∧s=s0.map f
 | [],h=>by cases h
 | (k,s') :: r,h=>by
  simp only [slMap,lk] at h ⊢
  split at h
  ·rename_i e
   injection h with h
   exact ⟨s',by rw [if_pos e],h.symm⟩
  ·rename_i e
   rw [if_neg e]
   exact lk_slMap r h
section
variable {w w':World} {D D':CS} {hs hs':Nat→Value} {nx nx':Nat} {ob ob':List (Nat×V)} {f:C→C}
theorem CsRep.mapf (hf:∀ k u,CRep w D hs nx ob k u→CRep w' D' hs' nx' ob' (f k) u):∀ (cs:List C) (us:List Value),CsRep w D hs nx ob cs us→CsRep w' D' hs' nx' ob' (cs.map f) us
 | [],_,h=>h
 | k :: cs,us,h=>by
  obtain ⟨u,r,h1,h2,h3⟩:=h
  exact ⟨u,r,h1,hf k u h2,CsRep.mapf hf cs r h3⟩
theorem AgRep.mapf (hf:∀ k u,CRep w D hs nx ob k u→CRep w' D' hs' nx' ob' (f k) u) {g:Ag C} {u:Value} (h:AgRep w D hs nx ob g u):AgRep w' D' hs' nx' ob' (g.map f) u:=by
 cases g with
 | one k=>exact hf k u h
 | agg ks=>obtain ⟨us,h1,h2⟩:=h; exact ⟨us,h1,CsRep.mapf hf ks us h2⟩
theorem AgsRep.mapf (hf:∀ k u,CRep w D hs nx ob k u→CRep w' D' hs' nx' ob' (f k) u):∀ (gs:List (Ag C)) (us:List Value),AgsRep w D hs nx ob gs us→AgsRep w' D' hs' nx' ob' (gs.map (Ag.map f)) us
 | [],_,h=>h
 | g :: gs,us,h=>by
  obtain ⟨u,r,h1,h2,h3⟩:=h
  exact ⟨u,r,h1,AgRep.mapf hf h2,AgsRep.mapf hf gs r h3⟩
theorem SlRep.mapf (hf:∀ k u,CRep w D hs nx ob k u→CRep w' D' hs' nx' ob' (f k) u) {s:Sl} {u:Value} (h:SlRep w D hs nx ob s u):SlRep w' D' hs' nx' ob' (s.map f) u:=by
 cases s with
 | pl g=>exact AgRep.mapf hf h
 | tup gs=>obtain ⟨us,h1,h2⟩:=h; exact ⟨us,h1,AgsRep.mapf hf gs us h2⟩
theorem Kp.other {i:Nat} {G:CS} (ho:ObRep w D hs (delO i ob) G) (hG:sameOn w w' G) (hd:sameOn w w' D) {k:Nat} (p:List Step) (hk:k≠i) (hl:lk k ob'=lk k ob) (hh:hs' k=hs k):Kp w w' hs hs' ob ob' k p:=
 fun v x h1 h2=>by
  rw [hl] at h1
  have h1':lk k (delO i ob)=some v:=by rw [lk_delO_ne hk]; exact h1
  obtain ⟨S1,G',e1,rfl,_⟩:=ho.focus _ _ k v h1'
  exact ⟨v,x,h1,h2,fun u hu _=>by rw [hh,e1.loc_keep h2 hd (qS hG (sub_l _ _))]; exact hu⟩
end
section
variable {gG:GG} {c:Ctx gG} {e e':Env} {a:Act} {w:World} {D:CS} {hs:Nat→Value} {S:CS} {X:Cfg} {o:Oper}
theorem StD.write (h:StD c e a w D hs S) {i n r j:Nat} {p:List Step} {v nd:V} {row:List V} (hi:lk i e.ob=some v) (hp:v.get p=some nd) (hrow:nd.rowAt n r=some row)
  {xs:List V} {us:List Value} {T S0:CS} (hx:RepRow w D (fun k=>us[k]?) xs 0 T) (hl:xs.length=us.length) (hT:TV.dj T S) (h0:sub T S0)
  (hS0:∀ b o,S0 b o→c.S0 b o∨c.w0.heap.size≤b) (hb0:∀ b o,S0 b o→b < w.heap.size) (hDT:TV.dj T D) (hj:j+xs.length≤row.length) (hne:us≠[]) :
  ∃ u0 b o,loc w (hs i) p=some u0∧base u0=some (ad b o)∧(∀ k,k < us.length→(∃ z,w.cell? (ad b (o+r * n+j+k))=some z)∧w.frozen? (ad b (o+r * n+j+k))=false) ∧
   ∃ S',StD c {e with ob:=setO i (v.set p (nd.setRow r (over j xs row))) e.ob,sl:=slMap (C.killN i) e.sl} a (w.setCells b (o+r * n+j) us) D hs S':=by
 obtain ⟨S1,G,e1,rfl,e3,e4,e5⟩:=h.ob.focus e.ob S i v hi
 obtain ⟨u0,Sx,G1,f1,f2,rfl,f4,f5⟩:=e1.focus p v _ _ nd hp
 obtain ⟨b,o,Sr,G2,g1,g2,rfl,g4,g5⟩:=f2.row hrow
 obtain ⟨b',o',S2,hq,hr,ho,hjr,rfl⟩:=g2
 have hq':ad b (o+r * n)=ad b' o':=by injection hq with hq; injection hq
 have hb':b=b':=by injection hq'
 have hoo:o+r * n=o':=by injection hq'
 subst hb'
 subst hoo
 obtain ⟨Sold,G3,k1,k2,k3,k4⟩:=hr.over hj
 subst k1
 have hcell:∀ k,k < us.length→(∃ z,w.cell? (ad b (o+r * n+j+k))=some z)∧w.frozen? (ad b (o+r * n+j+k))=false:=fun k hk=>by
  have:=ho (j+k) (by omega)
  rw [← Nat.add_assoc] at this
  exact this
 have hf:=frm_set w b (o+r * n+j) us hne
 -- the written cells lie in the row
 have hin:sub (rng b (o+r * n+j) us.length) (rng b (o+r * n) row.length):=by
  rintro x y ⟨q1,q2,q3⟩
  exact ⟨q1,by omega,by omega⟩
 have hinS:sub (rng b (o+r * n+j) us.length) (cup (cup (cup (cup (rng b (o+r * n) row.length) (cup Sold G3)) G2) G1) G):=fun x y q=>.inl (.inl (.inl (.inl (hin x y q))))
 have smD:TV.sameOn w (w.setCells b (o+r * n+j) us) D:=hf.sameOn (fun x y q1 q2=>h.dj x y (hinS x y q2) q1) h.Dl
 have sm:∀ A:CS,TV.dj A (rng b (o+r * n) row.length)→TV.sameOn w (w.setCells b (o+r * n+j) us) A:=fun A hA x y q=>same_set_out (fun q2=>hA x y q (hin x y q2))
 have smG3:=sm G3 (dj_comm (dj_r hjr))
 have smG2:=sm G2 (dj_comm (l_dj g4))
 have smG1:=sm G1 (dj_comm (l_dj (l_dj f4)))
 have smG:=sm G (dj_comm (l_dj (l_dj (l_dj e3))))
 have smT:TV.sameOn w (w.setCells b (o+r * n+j) us) T:=sm T (fun x y q1 q2=>hT x y q1 (.inl (.inl (.inl (.inl q2)))))
 have hxs:RepRow (w.setCells b (o+r * n+j) us) D (rdm (w.setCells b (o+r * n+j) us) b (o+r * n)) xs j T:=by
  have:=RepRow.frame (qA D) smD xs _ _ 0 T hx smT (fun q _ _=>rfl)
  refine RepRow.shift xs _ _ 0 j T this (fun q hq=>?_)
  have hql:q < us.length:=by omega
  simp only [rdm,Nat.zero_add]
  rw [← Nat.add_assoc,cell_set_in (fun k hk=>(hcell k hk).1) (List.getElem?_eq_getElem hql),List.getElem?_eq_getElem hql]
 have n1:=k4 _ D _ xs T rfl (qA D) smD smG3 (fun k hk hor=>(same_set_out (by rintro ⟨_,q1,q2⟩; omega)).1) hxs (fun x y q1 q2=>hT x y q1 (.inl (.inl (.inl (.inr (.inr q2))))))
 have hol:(over j xs row).length=row.length:=over_length _ _ _ (by omega)
 have n2:Rep (w.setCells b (o+r * n+j) us) D (.box true (over j xs row)) (.pointer (some (ad b (o+r * n)))) (cup (rng b (o+r * n) row.length) (cup T G3)):=by
  refine ⟨b,o+r * n,cup T G3,rfl,n1,?_,?_,by rw [hol]⟩
  ·intro k hk
   rw [hol] at hk
   by_cases hkj:j≤k∧k < j+us.length
   ·have:(w.setCells b (o+r * n+j) us).cell? (ad b (o+r * n+j+(k - j)))=some us[k - j]:=cell_set_in (fun k hk=>(hcell k hk).1) (List.getElem?_eq_getElem (by omega))
    rw [show o+r * n+j+(k - j)=o+r * n+k by omega] at this
    refine ⟨⟨_,this⟩,?_⟩
    rw [show (w.setCells b (o+r * n+j) us).frozen? (ad b (o+r * n+k))=w.frozen? (ad b (o+r * n+k)) from World.frozen?_setCells b us _ w _]
    exact (ho k hk).2
   ·have:=same_set_out (w:=w) (b:=b) (o:=o+r * n+j) (us:=us) (b':=b) (o':=o+r * n+k) (by rintro ⟨_,q1,q2⟩; omega)
    rw [this.1,this.2]
    exact ho k hk
  ·rw [hol]
   refine dj_cup (fun x y q1 q2=>hT x y q2 (.inl (.inl (.inl (.inl q1))))) (dj_r hjr)
 have n3:=g5 _ D (over j xs row) _ hol (qA D) smD smG2 n2 (cup_dj (l_dj g4) (cup_dj (fun x y q1 q2=>hT x y q1 (.inl (.inl (.inr q2)))) (r_dj (r_dj g4))))
 obtain ⟨n4,_⟩:=f5 _ D _ _ (qA D) smD smG1 n3 (cup_dj (cup_dj (l_dj (l_dj f4)) (cup_dj (fun x y q1 q2=>hT x y q1 (.inl (.inr q2))) (r_dj (r_dj (l_dj f4))))) (r_dj f4))
 have n5:=e5 _ D hs _ _ (qA D) smD smG (fun _ _ _ _=>rfl) n4 (cup_dj (cup_dj (cup_dj (l_dj (l_dj (l_dj e3))) (cup_dj (fun x y q1 q2=>hT x y q1 (.inr q2)) (r_dj (r_dj (l_dj (l_dj e3)))))) (r_dj (l_dj e3))) (r_dj e3))
 have hSub:∀ x y,cup (cup (cup (cup (rng b (o+r * n) row.length) (cup T G3)) G2) G1) G x y→T x y∨cup (cup (cup (cup (rng b (o+r * n) row.length) (cup Sold G3)) G2) G1) G x y:=by
  intro x y q
  simp only [cup] at q ⊢
  grind
 refine ⟨u0,b,o,f1,g1,hcell,cup (cup (cup (cup (rng b (o+r * n) row.length) (cup T G3)) G2) G1) G,?_⟩
 exact {
  ob:=n5
  sl:=fun t s ht=>by
   obtain ⟨s0,q1,rfl⟩:=lk_slMap e.sl ht
   refine SlRep.mapf (fun k u hk=>?_) (h.sl t s0 q1)
   have other:∀ k' q,k'≠i→Kp w (w.setCells b (o+r * n+j) us) hs hs e.ob (setO i (v.set p (nd.setRow r (over j xs row))) e.ob) k' q:=
    fun k' q hk'=>Kp.other e4 smG smD q hk' (lk_setO_ne hk' _ _) rfl
   have self:Kp w (w.setCells b (o+r * n+j) us) hs hs e.ob (setO i (v.set p (nd.setRow r (over j xs row))) e.ob) i []:=fun v' x' _ _=>⟨v,v,hi,rfl,fun u hu _=>hu⟩
   have kc:∀ k',(KC w (w.setCells b (o+r * n+j) us) hs hs e.nx e.ob (setO i (v.set p (nd.setRow r (over j xs row))) e.ob) k')→CRep w D hs e.nx e.ob k' u→CRep (w.setCells b (o+r * n+j) us) D hs e.nx (setO i (v.set p (nd.setRow r (over j xs row))) e.ob) k' u:=
    fun k' h1 h2=>h2.kc (qA D) smD (Nat.le_refl _) h1
   cases k with
   | v x=>exact kc _ trivial hk
   | ba row=>exact kc _ trivial hk
   | dead=>trivial
   | ref k' q =>
    cases q with
    | nil =>
     refine kc _ (fun _=>?_) hk
     by_cases q:k'=i
     ·subst q; exact self
     ·exact other k' [] q
    | cons s q =>
     simp only [C.killN]
     split
     ·trivial
     ·rename_i hne'
      exact kc _ (fun _=>other k' _ hne') hk
   | part k' q _ _ _ =>
    cases q with
    | nil =>
     refine kc _ (fun _=>?_) hk
     by_cases q:k'=i
     ·subst q; exact self
     ·exact other k' [] q
    | cons s q =>
     simp only [C.killN]
     split
     ·trivial
     ·rename_i hne'
      exact kc _ (fun _=>other k' _ hne') hk
   | addr k' q _ _ _ =>
    cases q with
    | nil =>
     refine kc _ (fun _=>?_) hk
     by_cases q:k'=i
     ·subst q; exact self
     ·exact other k' [] q
    | cons s q =>
     simp only [C.killN]
     split
     ·trivial
     ·rename_i hne'
      exact kc _ (fun _=>other k' _ hne') hk
  sz:=h.sz
  df:=h.df
  dj:=fun x y q1 q2=>(hSub x y q1).elim (fun q=>hDT x y q q2) (fun q=>h.dj x y q q2)
  Dl:=fun x y q=>by rw [(setCells_meta b us _ w).2.2.2.1]; exact h.Dl x y q
  id:=fun k x q=>by
   by_cases hki:k=i
   ·subst hki
    exact h.id _ v hi
   ·rw [lk_setO_ne hki] at q
    exact h.id k x q
  npx:=h.npx
  hp:=h.hp
  fr:=h.fr.trans hf (fun x y q=>h.Ss x y (hinS x y q))
  Ss:=fun x y q=>(hSub x y q).elim (fun q=>hS0 x y (h0 x y q)) (h.Ss x y)
  D0:=h.D0
  gl:=h.gl
  Ds:=h.Ds}
end
end Go.TV
namespace Go.TV
def Env.place (e:Env):C→Option (Nat×List Step×Nat×Nat×Nat)
 | .addr i p n r j=>some (i,p,n,r,j)
 | .ref i p=>match e.node i p with | some (.box true _)=>some (i,p,0,0,0) | _=>none
 | _=>none
def Env.lay (e:Env) (k:C) (xs:List V):Option Env:=
 (e.place k).bind fun q=>(lk q.1 e.ob).bind fun v=>(v.get q.2.1).bind fun nd=>(nd.rowAt q.2.2.1 q.2.2.2.1).bind fun row =>
  if q.2.2.2.2+xs.length≤row.length then some {e with ob:=setO q.1 (v.set q.2.1 (nd.setRow q.2.2.2.1 (over q.2.2.2.2 xs row))) e.ob,sl:=slMap (C.killN q.1) e.sl} else none
def evStoreS (T:Nat→Option TyI) (o:Oper) (t:Nat) (x:Operand) (s:Sl) (e:Env):Option Env:=
 match o.dst with
 | none=>(T t).bind fun d=>(e.cl x).bind fun k=>match s with
  | .pl g=>(e.takes g.cells).bind fun q=>if q.1.length=d.size∧d.size≠0 then q.2.lay k q.1 else none
  | _=>none
 | some _=>none
def evStore (T:Nat→Option TyI) (o:Oper) (t:Nat) (x y:Operand) (e:Env):Option Env:=
 match o.dst with
 | none=>(T t).bind fun d=>(e.cl x).bind fun k=>(e.val y).bind fun
  | .pl g=>(e.takes g.cells).bind fun q=>if q.1.length=d.size∧d.size≠0 then q.2.lay k q.1 else none
  | _=>none
 | some _=>none
section
variable {gG:GG} {c:Ctx gG} {e e':Env} {a:Act} {w:World} {D:CS} {hs:Nat→Value} {S:CS} {X:Cfg} {o:Oper}
theorem evStoreS_ok (h:StD c e a w D hs S) {t:Nat} {x y:Operand} {s:Sl} (ho:o.op=.store t x y) (hg:SlRep w D hs e.nx e.ob s (a.eval y)) (he:evStoreS X.T o t x s e=some e'):Did X.P c o a w e':=by
 unfold evStoreS at he
 split at he
 case h_2=>cases he
 rename_i hdst
 obtain ⟨d,h1,h2⟩:=zbi he
 obtain ⟨k,h3,h2⟩:=zbi h2
 obtain ⟨g,rfl⟩:∃ g,s=.pl g:=by
  cases s with
  | pl g=>exact ⟨g,rfl⟩
  | tup gs=>cases h2
 simp only at h2
 obtain ⟨⟨xs,e1⟩,h5,h2⟩:=zbi h2
 simp only at h2
 split at h2
 case isFalse=>cases h2
 rename_i hsz
 obtain ⟨⟨i,p,n,r,j⟩,h6,h2⟩:=zbi h2
 obtain ⟨v,h7,h2⟩:=zbi h2
 obtain ⟨nd,h8,h2⟩:=zbi h2
 obtain ⟨row,h9,h2⟩:=zbi h2
 simp only at h7 h8 h9 h2
 split at h2
 case isFalse=>cases h2
 rename_i hj
 injection h2 with h2
 subst h2
 obtain ⟨us,k1,k2⟩:=AgRep.cells' h hg h5
 obtain ⟨S1,S',f1,f2,f3,f4,f5,f6,f7,f8,f9,f10,f11⟩:=StD.takes g.cells h h5 k2
 have hx:=f11 _ _ (h.cl h3)
 have hne:us≠[]:=fun hu=>by rw [hu,List.length_nil] at f2; omega
 obtain ⟨u0,b,o',q1,q2,q3,S2,q4⟩:=f4.write h7 h8 h9 f1 f2 f5 f6 h.Ss h.ob.blt (dj_sub h.dj f6) hj hne
 -- the address
 have haddr:a.eval x=.pointer (some (ad b (o'+r * n+j))):=by
  cases k with
  | addr i' p' n' r' j' =>
   simp only [Env.place,Option.some.injEq,Prod.mk.injEq] at h6
   obtain ⟨rfl,rfl,rfl,rfl,rfl⟩:=h6
   obtain ⟨u1,g1,_,b',o2,g2,g3⟩:=hx.2 v nd h7 h8
   rw [q1] at g1
   injection g1 with g1
   subst g1
   rw [q2] at g2
   injection g2 with g2
   have eb:b=b':=by injection g2
   have eo:o'=o2:=by injection g2
   subst eb
   subst eo
   exact g3
  | ref i' p' =>
   simp only [Env.place] at h6
   split at h6
   case h_2=>cases h6
   rename_i row' hn
   simp only [Option.some.injEq,Prod.mk.injEq] at h6
   obtain ⟨rfl,rfl,rfl,rfl,rfl⟩:=h6
   obtain ⟨u1,g1,_,rfl⟩:=hx.2 v nd h7 h8
   rw [q1] at g1
   injection g1 with g1
   subst g1
   obtain ⟨v',z1,z2⟩:=f4.lnode hn
   rw [h7] at z1
   injection z1 with z1
   subst z1
   rw [h8] at z2
   injection z2 with z2
   subst z2
   obtain ⟨u2,Sx,d1,d2,_⟩:=f4.node h7 h8
   rw [q1] at d1
   injection d1 with d1
   subst d1
   obtain ⟨b',o2,_,d3,_⟩:=d2
   rw [d3] at q2 ⊢
   simp only [base,Option.some.injEq] at q2
   rw [q2]
   simp
  | _=>cases h6
 have hd:=X.hT _ _ h1
 refine ⟨undef,_,.inr ⟨?_,rfl⟩,D,hs,S2,by rw [hdst]; exact q4⟩
 have hst:=Go.run_storeCells_cells (P:=X.P) b (o'+r * n+j) us 0 w (fun k hk=>by obtain ⟨z,hz⟩:=(q3 k hk).1; exact Option.isSome_iff_exists.2 ⟨z,hz⟩) (fun k hk=>(q3 k hk).2) f3
 have hsv:(Instr.storeAt t (a.eval x) (a.eval y)).run X.P w=.ok () (w.setCells b (o'+r * n+j) us):=by
  have hcs:((a.eval y).cells).size=d.size:=by rw [k1]; simp; omega
  simp only [Instr.storeAt,haddr,Instr.sureAddr,storeVar,Sem.run_bind,Sem.run_pure,Result.andThen_ok,run_size hd]
  rw [if_neg (by rw [hcs]; simp),k1]
  exact hst
 simp only [execOp,ho,Sem.run_bind]
 rw [hsv]
 rfl
theorem evStore_ok (h:StD c e a w D hs S) {t:Nat} {x y:Operand} (ho:o.op=.store t x y) (he:evStore X.T o t x y e=some e'):Did X.P c o a w e':=by
 unfold evStore at he
 split at he
 case h_2=>cases he
 rename_i hdst
 obtain ⟨d,h1,h2⟩:=zbi he
 obtain ⟨k,h3,h2⟩:=zbi h2
 obtain ⟨s,h4,h2⟩:=zbi h2
 refine evStoreS_ok (X:=X) h ho (h.val h4) ?_
 unfold evStoreS
 rw [hdst,h1,Option.bind_some,h3,Option.bind_some]
 exact h2
end
end Go.TV
namespace Go.TV
def C.killA (i:Nat):C→C
 | .ref k p=>if k=i then .dead else .ref k p
 | .part k p n lo hi=>if k=i then .dead else .part k p n lo hi
 | .addr k p n r j=>if k=i then .dead else .addr k p n r j
 | x=>x
section
variable {gG:GG} {c:Ctx gG} {e e':Env} {a:Act} {w:World} {D:CS} {hs:Nat→Value} {S:CS} {X:Cfg} {o:Oper}
theorem StD.objAt (h:StD c e a w D hs S) {i:Nat} {v:V} {u:Value} {S1:CS} (hi:lk i e.ob=none) (hin:i < e.nx) (hip:e.np≤i)
  (hv:Rep w D v u S1) (hj:TV.dj S1 S) (hjD:TV.dj S1 D) (h0:∀ b o,S1 b o→c.S0 b o∨c.w0.heap.size≤b) :
  StD c {e with ob:=(i,v) :: e.ob,sl:=slMap (C.killA i) e.sl} a w D (fun k=>if k=i then u else hs k) (cup S1 S):=by
 have hne:∀ k x,lk k e.ob=some x→k≠i:=fun k x q r=>by rw [r,hi] at q; cases q
 have hD:=qM w D
 exact {
  ob:=⟨S1,S,hi,by simpa using hv,ObRep.keep (qA D) hD e.ob S h.ob (qM w S) (fun k x q=>by simp [hne k x q]),hj,rfl⟩
  sl:=fun t s ht=>by
   obtain ⟨s0,q1,rfl⟩:=lk_slMap e.sl ht
   refine SlRep.mapf (fun k u' hk=>?_) (h.sl t s0 q1)
   have other:∀ k' q,k'≠i→Kp w w hs (fun k=>if k=i then u else hs k) e.ob ((i,v) :: e.ob) k' q:=fun k' q hk' =>
    Kp.same h.ob _ (by simp only [lk_cons]; rw [if_neg hk']) (by show (if k'=i then u else hs k')=_; rw [if_neg hk']) hD (fun _ _ _ _ _ _ _=>qM _ _)
   cases k with
   | v x=>exact hk
   | ba row=>exact hk
   | dead=>trivial
   | ref k' q =>
    simp only [C.killA]
    split
    ·trivial
    ·rename_i hne'
     exact CRep.kc (c:=.ref k' q) (qA D) hD (Nat.le_refl _) hk (fun _=>other k' q hne')
   | part k' q n lo hi =>
    simp only [C.killA]
    split
    ·trivial
    ·rename_i hne'
     exact CRep.kc (c:=.part k' q n lo hi) (qA D) hD (Nat.le_refl _) hk (fun _=>other k' q hne')
   | addr k' q n r j =>
    simp only [C.killA]
    split
    ·trivial
    ·rename_i hne'
     exact CRep.kc (c:=.addr k' q n r j) (qA D) hD (Nat.le_refl _) hk (fun _=>other k' q hne')
  sz:=h.sz
  df:=h.df
  dj:=cup_dj hjD h.dj
  Dl:=h.Dl
  id:=fun k x q=>by
   simp only [lk_cons] at q
   split at q
   ·rename_i e
    subst e
    exact hin
   ·exact h.id k x q
  npx:=h.npx
  hp:=fun k hk=>by
   have hk':k < e.np:=hk
   simp only [show k≠i by omega,if_false]
   exact h.hp k hk
  fr:=h.fr
  Ss:=fun b o q=>q.elim (h0 b o) (h.Ss b o)
  D0:=h.D0
  gl:=h.gl
  Ds:=h.Ds}
theorem StD.world' (h:StD c e a w D hs S) {w':World} {Z:CS} (hf:Frm w w' Z) (hZS:TV.dj S Z) (hZD:TV.dj D Z) (hZ0:∀ b o,Z b o→c.S0 b o∨c.w0.heap.size≤b):StD c e a w' D hs S:=by
 have hS:TV.sameOn w w' S:=hf.sameOn hZS h.ob.blt
 have hD:TV.sameOn w w' D:=hf.sameOn hZD h.Dl
 exact {
  ob:=ObRep.keep (qA D) hD e.ob S h.ob hS (fun _ _ _=>rfl)
  sl:=fun t s ht=>(h.sl t s ht).kc (qA D) hD (Nat.le_refl _) s _ (fun c _=>by
   cases c <;> first | trivial | exact fun _=>Kp.same h.ob _ rfl rfl hD (fun v S1 G _ _ h2 _=>qS hS (by rw [h2]; exact sub_l _ _)))
  sz:=h.sz
  df:=h.df
  dj:=h.dj
  Dl:=fun b o q=>Nat.lt_of_lt_of_le (h.Dl b o q) hf.size
  id:=h.id
  npx:=h.npx
  hp:=h.hp
  fr:=h.fr.trans hf hZ0
  Ss:=h.Ss
  D0:=h.D0
  gl:=h.gl
  Ds:=h.Ds}
theorem frm_drew (w:World):Frm w w.drew emp:=⟨rfl,rfl,rfl,Nat.le_refl _,fun _ _ _=>rfl,fun _ _ _ _=>⟨rfl,rfl,rfl⟩⟩
theorem flat_len {n:Nat}:∀ (rows:List (List V)),(∀ r ∈ rows,r.length=n)→rows.flatten.length=rows.length * n
 | [],_=>by simp
 | r :: rs,hr=>by
  rw [List.flatten_cons,List.length_append,hr r (by simp),flat_len rs (fun q hq=>hr q (by simp [hq])),List.length_cons,Nat.add_mul,Nat.one_mul]
  omega
theorem list_new {rows:List (List V)} {n cap t:Nat} {us:List Value} {T:CS} (hx:RepRow w D (fun k=>us[k]?) rows.flatten 0 T) (hrl:∀ r ∈ rows,r.length=n)
  (hl:us.length=cap * n) (hc:rows.length≤cap) (hTb:∀ b o,T b o→b < w.heap.size) (hDb:∀ b o,D b o→b < w.heap.size) :
  Rep (w.alloc (.cells us.toArray t)) D (.list true n rows) (.slice (some (ad w.heap.size 0)) rows.length cap) (cup (rng w.heap.size 0 (cap * n)) T):=by
 have hf:=frm_alloc w (.cells us.toArray t)
 have hfl:=flat_len rows hrl
 have hcn:rows.length * n≤cap * n:=Nat.mul_le_mul_right n hc
 refine .inr ⟨w.heap.size,0,cap,T,rfl,hc,?_,?_,?_,rfl⟩
 ·refine RepRows.of_flat (rd:=fun k=>us[k]?) rows 0 T ?_ hrl (fun j _ hj=>?_)
  ·rw [Nat.zero_mul]
   exact RepRow.frame (qA D) (hf.sameOn (dj_emp D) hDb) _ _ _ 0 T hx (hf.sameOn (dj_emp T) hTb) (fun j _ hj=>rfl)
  ·rw [Nat.zero_add,cell_alloc]
   simp
 ·intro k hk
  rw [Nat.zero_add,cell_alloc,frozen_alloc]
  exact ⟨⟨us[k]'(by omega),by simp [show k < us.length by omega]⟩,rfl⟩
 ·rintro x y ⟨rfl,_,_⟩ q
  have:=hTb _ _ q
  omega
theorem append_types {P:Program} {t u ty e1 e2:Nat} {A B:Option Addr} {l k m q:Nat} (hu:P.underlying u=some (.slice e1)) (ht:P.underlying t=some (.slice e2)) :
  (Builtin.append_ #[t,u] ty #[.slice A l k,.slice B m q]).run P w=(Builtin.append_ #[t,t] ty #[.slice A l k,.slice B m q]).run P w:=by
 simp [Builtin.append_,run_underlying hu,run_underlying ht]
theorem run_append_none {P:Program} {t ty el:Nat} {de:TyI} {A B:Option Addr} {l k q:Nat} (ht:P.underlying t=some (.slice el)) (hde:TyOk P el de) (hl:l≤k) :
  (Builtin.append_ #[t,t] ty #[.slice A l k,.slice B 0 q]).run P w=.ok (.slice A l k) w:=by
 have hf:∀ w',(Builtin.firstCells de.size 0 (.slice B 0 q)).run P w'=.ok #[] w':=fun w'=>by
  cases B <;> simp [Builtin.firstCells,loadCells,loadCellsFrom]
 cases A <;> simp [Builtin.append_,run_underlying ht,run_size hde,Builtin.lenOf,hl,hf,storeCells]
theorem run_append_in {P:Program} {t ty el:Nat} {de:TyI} {b o b2 o2 l k m q:Nat} {us:List Value} (ht:P.underlying t=some (.slice el)) (hde:TyOk P el de) (hlen:us.length=m * de.size)
  (hus:∀ j u,us[j]? = some u→w.cell? ((ad b2 o2).add j)=some u) (h1:∀ u ∈ us,u.oneCell'=true) (hr:l+m≤k)
  (hown:∀ j,j < us.length→(∃ z,w.cell? (ad b (o+l * de.size+j))=some z)∧w.frozen? (ad b (o+l * de.size+j))=false) :
  (Builtin.append_ #[t,t] ty #[.slice (some (ad b o)) l k,.slice (some (ad b2 o2)) m q]).run P w=.ok (.slice (some (ad b o)) (l+m) k) (w.setCells b (o+l * de.size) us):=by
 have hf:=run_firstCells_some (P:=P) w de.size m (ad b2 o2) m q us hlen hus
 have hst:=Go.run_storeCells_cells (P:=P) b (o+l * de.size) us 0 w (fun j hj=>by obtain ⟨z,hz⟩:=(hown j hj).1; exact Option.isSome_iff_exists.2 ⟨z,hz⟩) (fun j hj=>(hown j hj).2) h1
 have hst':(storeCells (ad b (o+l * de.size)) us).run P w=.ok () (w.setCells b (o+l * de.size) us):=hst
 simp [Builtin.append_,run_underlying ht,run_size hde,Builtin.lenOf,hr,hf,ad_add,hst']
theorem append_done (h:StD c e a w D hs S) {t u ty el e2:Nat} {de:TyI} {rows rows2:List (List V)} {ux uy:Value} {S1 S2:CS} (ht:X.P.underlying t=some (.slice el)) (hu:X.P.underlying u=some (.slice e2)) (hde:TyOk X.P el de)
  (hx:Rep w D (.list true de.size rows) ux S1) (hy:∃ A cap,uy=.slice A rows2.length cap∧((True∧rows2=[]∧S2=emp)∨∃ b o,A=some (ad b o)∧RepRows w D de.size b o rows2 0 S2))
  (h12:TV.dj S1 S2) (h1S:TV.dj S1 S) (h2S:TV.dj S2 S) (h1D:TV.dj S1 D) (h2D:TV.dj S2 D) (h2l:∀ b o,S2 b o→b < w.heap.size)
  (h10:∀ b o,S1 b o→c.S0 b o∨c.w0.heap.size≤b) (h20:∀ b o,S2 b o→c.S0 b o∨c.w0.heap.size≤b) (hsz:de.size≠0) (hby:de.bytes≤256) (hln:rows.length+rows2.length≤549755813888)
  (h1c:∀ r ∈ rows2,∀ x ∈ r,x.alive=true) :
  ∃ v w' S3,(Builtin.append_ #[t,u] ty #[ux,uy]).run X.P w=.ok v w'∧hdr v=true∧StD c e a w' D hs S∧Rep w' D (.list true de.size (rows++rows2)) v S3∧TV.dj S3 S∧TV.dj S3 D∧(∀ b o,S3 b o→c.S0 b o∨c.w0.heap.size≤b):=by
 obtain ⟨A,cap2,rfl,hy⟩:=hy
 have hbig:(rows.length+rows2.length) * de.bytes≤140737488355328:=by
  have:(rows.length+rows2.length) * de.bytes≤549755813888 * 256:=Nat.mul_le_mul hln hby
  omega
 obtain ⟨i,i1,i2,i3,z,i4,i5⟩:=hde.inf
 have hzs:z.cells.size=de.size:=by
  have:=congrArg List.length i5
  simp [hde.zl] at this
  exact this
 -- nothing appended
 by_cases hm:rows2.length=0
 ·have hr2:rows2=[]:=List.length_eq_zero_iff.1 hm
  subst hr2
  have he:∃ B l k,ux=.slice B l k∧l≤k:=by
   rcases hx with ⟨rfl,q,_⟩ | ⟨b,o',cap,T,rfl,hc,_⟩
   ·obtain rfl:=nilish_own q
    exact ⟨_,_,_,rfl,Nat.le_refl _⟩
   ·exact ⟨_,_,_,rfl,hc⟩
  obtain ⟨B,l,k,rfl,hlk⟩:=he
  refine ⟨_,w,S1,by rw [append_types hu ht]; exact run_append_none ht hde hlk,rfl,h,by simpa using hx,h1S,h1D,h10⟩
 rcases hy with ⟨_,hy,_⟩ | ⟨b2,o2,rfl,hy⟩
 ·rw [hy] at hm
  exact absurd rfl hm
 -- the cells of what is appended
 obtain ⟨y1,y2,y3⟩:=RepRows.flat rows2 0 S2 hy
 rw [Nat.zero_mul] at y1
 obtain ⟨us2,v1,v2⟩:=RepRow.vals _ _ _ y1
 simp only [Nat.zero_add] at v2
 have hus2:∀ j u,us2[j]? = some u→w.cell? ((ad b2 o2).add j)=some u:=fun j u q=>by rw [ad_add]; exact v2 j u q
 have one2:∀ u ∈ us2,u.oneCell'=true:=by
  have gen:∀ (r:List V) (rd:Nat→Option Value) (k:Nat) (T:CS) (us:List Value),RepRow w D rd r k T→(∀ x ∈ r,x.alive=true)→us.length=r.length→(∀ j u,us[j]? = some u→rd (k+j)=some u)→∀ u ∈ us,u.oneCell'=true:=by
   intro r
   induction r with
   | nil=>intro rd k T us _ _ hl _ u hu; rw [List.length_eq_zero_iff.1 hl] at hu; simp at hu
   | cons x r ih =>
    intro rd k T us hr ha hl hj u hu
    obtain ⟨u1,T1,T2,g1,g2,g3,g4,g5⟩:=hr
    cases us with
    | nil=>simp at hl
    | cons u2 us =>
     have e:=hj 0 u2 rfl
     rw [Nat.add_zero,g1] at e
     injection e with e
     subst e
     rcases List.mem_cons.1 hu with rfl | hu
     ·exact g2.oneCell (ha x (by simp))
     ·exact ih rd (k+1) T2 us g3 (fun y hy=>ha y (by simp [hy])) (by simpa using hl) (fun j u hj'=>by have:=hj (j+1) u (by simpa using hj'); rwa [show k+(j+1)=k+1+j by omega] at this) u hu
  refine gen rows2.flatten _ 0 S2 us2 y1 (fun x hx=>?_) v1 (by simpa using v2)
  obtain ⟨r,hr,hxr⟩:=List.mem_flatten.1 hx
  exact h1c r hr x hxr
 have hl2:us2.length=rows2.length * de.size:=by rw [v1,y2]
 have row2:∀ (rd:Nat→Option Value) (k:Nat),(∀ j u,us2[j]? = some u→rd (k+j)=some u)→RepRow w D rd rows2.flatten k S2:=fun rd k hrd=>by
  refine RepRow.shift _ _ rd 0 k S2 y1 (fun q hq=>?_)
  have hql:q < us2.length:=by omega
  rw [hrd q _ (List.getElem?_eq_getElem hql),Nat.zero_add,v2 q _ (List.getElem?_eq_getElem hql)]
 -- a new block
 have grow:∀ (olds:List Value) (T1:CS) (cap:Nat),olds.length=rows.length * de.size→RepRow w D (fun k=>olds[k]?) rows.flatten 0 T1→(∀ r ∈ rows,r.length=de.size)→TV.sub T1 S1→rows.length+rows2.length≤cap →
   ∃ S3,StD c e a (w.drew.alloc (.cells (olds.toArray++us2.toArray++Builtin.zeroCells z.cells (cap - (rows.length+rows2.length))) el)) D hs S ∧
    Rep (w.drew.alloc (.cells (olds.toArray++us2.toArray++Builtin.zeroCells z.cells (cap - (rows.length+rows2.length))) el)) D (.list true de.size (rows++rows2)) (.slice (some (ad w.heap.size 0)) (rows.length+rows2.length) cap) S3 ∧
    TV.dj S3 S∧TV.dj S3 D∧(∀ b o,S3 b o→c.S0 b o∨c.w0.heap.size≤b):=by
  intro olds T1 cap ho hr hrl hsub hcap
  have e0:olds.toArray++us2.toArray++Builtin.zeroCells z.cells (cap - (rows.length+rows2.length))=(olds++us2++(Builtin.zeroCells z.cells (cap - (rows.length+rows2.length))).toList).toArray:=by
   apply Array.ext'
   simp
  rw [e0]
  have hd:=h.world (frm_drew w)
  have h2:=hd.world (frm_alloc w.drew (.cells (olds++us2++(Builtin.zeroCells z.cells (cap - (rows.length+rows2.length))).toList).toArray el))
  have hrl':∀ r ∈ rows++rows2,r.length=de.size:=fun r hr=>(List.mem_append.1 hr).elim (hrl r) (y3 r)
  have hll:(olds++us2++(Builtin.zeroCells z.cells (cap - (rows.length+rows2.length))).toList).length=cap * de.size:=by
   simp only [List.length_append,ho,hl2,Array.length_toList,size_zeroCells,hzs,← Nat.add_mul]
   congr 1
   omega
  have hflat:RepRow w D (fun k=>(olds++us2++(Builtin.zeroCells z.cells (cap - (rows.length+rows2.length))).toList)[k]?) (rows++rows2).flatten 0 (cup T1 S2):=by
   rw [List.flatten_append]
   have hfl:=flat_len rows hrl
   refine RepRow.join _ _ 0 T1 S2 (RepRow.frame (qA D) (qM w D) _ _ _ 0 T1 hr (qM w T1) (fun j _ hj=>?_)) (row2 _ _ (fun j u hj=>?_)) (dj_sub h12 hsub)
   ·have:j < olds.length:=by omega
    rw [List.append_assoc,List.getElem?_append_left this]
   ·have hjl:=(List.getElem?_eq_some_iff.1 hj).1
    rw [Nat.zero_add,hfl,← ho,List.append_assoc,List.getElem?_append_right (by omega),Nat.add_sub_cancel_left,List.getElem?_append_left hjl]
    exact hj
  have hS1b:∀ b o,S1 b o→b < w.heap.size:=fun b o q=>by
   exact Rep.lt _ _ _ hx b o q
  have hTb:∀ b o,cup T1 S2 b o→b < w.drew.heap.size:=fun b o q=>q.elim (fun q=>hS1b b o (hsub b o q)) (fun q=>h2l b o q)
  have hflat':RepRow w.drew D (fun k=>(olds++us2++(Builtin.zeroCells z.cells (cap - (rows.length+rows2.length))).toList)[k]?) (rows++rows2).flatten 0 (cup T1 S2):=
   RepRow.frame (qA D) ((frm_drew w).sameOn (dj_emp D) h.Dl) _ _ _ 0 _ hflat ((frm_drew w).sameOn (dj_emp _) hTb) (fun _ _ _=>rfl)
  have hrep:=list_new (w:=w.drew) (t:=el) (cap:=cap) hflat' hrl' hll (by rw [List.length_append]; exact hcap) hTb h.Dl
  rw [List.length_append] at hrep
  refine ⟨_,h2,hrep,?_,?_,?_⟩
  ·exact cup_dj (fun x y p q=>by have:=h.ob.blt x y q; have:=p.1; simp at this; omega) (cup_dj (dj_sub h1S hsub) h2S)
  ·exact cup_dj (fun x y p q=>by have:=h.Dl x y q; have:=p.1; simp at this; omega) (cup_dj (dj_sub h1D hsub) h2D)
  ·rintro x y (q | q | q)
   ·right
    have:=q.1
    simp at this
    rw [this]
    exact h.fr.size
   ·exact h10 x y (hsub x y q)
   ·exact h20 x y q
 rcases hx with ⟨rfl,q,rfl⟩ | ⟨b,o',cap,T,rfl,hc,hrr,hown,hdj,rfl⟩
 ·obtain rfl:=nilish_own q
  have hcap:=grownCap_ge w rows2.length 0 el
  obtain ⟨S3,g1,g2,g3,g4,g5⟩:=grow [] emp (grownCap w rows2.length 0 el) (by simp) rfl (fun r hr=>by simp at hr) (fun _ _ q=>q.elim) (by simpa using hcap)
  have hr:=run_append_nil (P:=X.P) w t ty el i z ht i1 i4 (ad b2 o2) rows2.length cap2 us2 (by rw [i2]; exact hl2) hus2 (by omega) (by omega) (by rw [i3]; simp at hbig; omega)
  simp only [List.length_nil,Nat.zero_add,List.nil_append] at g1 g2
  have e1:(#[]:Array Value)++us2.toArray=us2.toArray:=by simp
  rw [e1] at g1 g2
  exact ⟨_,_,S3,by rw [append_types hu ht]; exact hr,rfl,g1,by rw [List.nil_append]; exact g2,g3,g4,g5⟩
 ·obtain ⟨x1,x2,x3⟩:=RepRows.flat rows 0 T hrr
  rw [Nat.zero_mul] at x1
  obtain ⟨us1,p1,p2⟩:=RepRow.vals _ _ _ x1
  simp only [Nat.zero_add] at p2
  have hl1:us1.length=rows.length * de.size:=by rw [p1,x2]
  by_cases hroom:rows.length+rows2.length≤cap
  ·have hroomn:rows.length * de.size+rows2.length * de.size≤cap * de.size:=by rw [← Nat.add_mul]; exact Nat.mul_le_mul_right _ hroom
   have hin:TV.sub (rng b (o'+rows.length * de.size) us2.length) (rng b o' (cap * de.size)):=by
    rintro x y ⟨q1,q2,q3⟩
    exact ⟨q1,by omega,by omega⟩
   have hcell:∀ j,j < us2.length→(∃ z,w.cell? (ad b (o'+rows.length * de.size+j))=some z)∧w.frozen? (ad b (o'+rows.length * de.size+j))=false:=fun j hj=>by
    have:=hown (rows.length * de.size+j) (by omega)
    rw [← Nat.add_assoc] at this
    exact this
   have hne:us2≠[]:=fun q=>by
    rw [q,List.length_nil] at hl2
    have:rows2.length * de.size≠0:=Nat.mul_ne_zero hm hsz
    omega
   have hf:=frm_set w b (o'+rows.length * de.size) us2 hne
   have hzS:TV.dj S (rng b (o'+rows.length * de.size) us2.length):=fun x y q1 q2=>h1S x y (.inl (hin x y q2)) q1
   have hzD:TV.dj D (rng b (o'+rows.length * de.size) us2.length):=fun x y q1 q2=>h1D x y (.inl (hin x y q2)) q1
   have h':=h.world' hf hzS hzD (fun x y q=>h10 x y (.inl (hin x y q)))
   have smD:TV.sameOn w (w.setCells b (o'+rows.length * de.size) us2) D:=hf.sameOn hzD h.Dl
   have smT:TV.sameOn w (w.setCells b (o'+rows.length * de.size) us2) T:=fun x y q=>same_set_out (fun q2=>hdj x y (hin x y q2) q)
   have sm2:TV.sameOn w (w.setCells b (o'+rows.length * de.size) us2) S2:=fun x y q=>same_set_out (fun q2=>h12 x y (.inl (hin x y q2)) q)
   have hfl:=flat_len rows x3
   have hT2:TV.dj T S2:=fun x y q1 q2=>h12 x y (.inr q1) q2
   have hflat:RepRow (w.setCells b (o'+rows.length * de.size) us2) D (fun j=>(w.setCells b (o'+rows.length * de.size) us2).cell? (ad b (o'+j))) (rows++rows2).flatten 0 (cup T S2):=by
    rw [List.flatten_append]
    refine RepRow.join _ _ 0 T S2 (RepRow.frame (qA D) smD _ _ _ 0 T x1 smT (fun j _ hj=>(same_set_out (by rintro ⟨_,q1,q2⟩; omega)).1)) ?_ hT2
    refine RepRow.frame (w:=w) (qA D) smD _ _ _ _ S2 (row2 (fun j=>(w.setCells b (o'+rows.length * de.size) us2).cell? (ad b (o'+j))) (0+rows.flatten.length) (fun j u hj=>?_)) sm2 (fun _ _ _=>rfl)
    rw [Nat.zero_add,hfl,← Nat.add_assoc]
    exact cell_set_in (fun k hk=>(hcell k hk).1) hj
   refine ⟨.slice (some (ad b o')) (rows.length+rows2.length) cap,_,cup (rng b o' (cap * de.size)) (cup T S2),by rw [append_types hu ht]; exact run_append_in ht hde hl2 hus2 one2 hroom hcell,rfl,h',?_,?_,?_,?_⟩
   ·refine .inr ⟨b,o',cap,cup T S2,by rw [List.length_append],by rw [List.length_append]; exact hroom,?_,?_,?_,rfl⟩
    ·refine RepRows.of_flat (rows++rows2) 0 _ (by rw [Nat.zero_mul]; exact hflat) (fun r hr=>(List.mem_append.1 hr).elim (x3 r) (y3 r)) (fun j _ _=>rfl)
    ·intro k hk
     by_cases hkj:rows.length * de.size≤k∧k < rows.length * de.size+us2.length
     ·have:(w.setCells b (o'+rows.length * de.size) us2).cell? (ad b (o'+rows.length * de.size+(k - rows.length * de.size)))=some us2[k - rows.length * de.size]:=cell_set_in (fun k hk=>(hcell k hk).1) (List.getElem?_eq_getElem (by omega))
      rw [show o'+rows.length * de.size+(k - rows.length * de.size)=o'+k by omega] at this
      refine ⟨⟨_,this⟩,?_⟩
      rw [show (w.setCells b (o'+rows.length * de.size) us2).frozen? (ad b (o'+k))=w.frozen? (ad b (o'+k)) from World.frozen?_setCells b us2 _ w _]
      exact (hown k hk).2
     ·have:=same_set_out (w:=w) (b:=b) (o:=o'+rows.length * de.size) (us:=us2) (b':=b) (o':=o'+k) (by rintro ⟨_,q1,q2⟩; omega)
      rw [this.1,this.2]
      exact hown k hk
    ·exact dj_cup hdj (fun x y q1 q2=>h12 x y (.inl q1) q2)
   ·exact cup_dj (l_dj h1S) (cup_dj (r_dj h1S) h2S)
   ·exact cup_dj (l_dj h1D) (cup_dj (r_dj h1D) h2D)
   ·rintro x y (q | q | q)
    ·exact h10 x y (.inl q)
    ·exact h10 x y (.inr q)
    ·exact h20 x y q
  ·have hcap:=grownCap_ge w (rows.length+rows2.length) cap el
   obtain ⟨S3,g1,g2,g3,g4,g5⟩:=grow us1 T (grownCap w (rows.length+rows2.length) cap el) hl1
    (RepRow.shift _ _ _ 0 0 T x1 (fun q hq=>by
     have hql:q < us1.length:=by omega
     rw [Nat.zero_add,p2 q _ (List.getElem?_eq_getElem hql),List.getElem?_eq_getElem hql])) x3 (sub_r _ _) hcap
   have hr:=run_append_grow (P:=X.P) w t ty el i z ht i1 i4 (ad b o') rows.length cap us1 (by rw [i2]; exact hl1) (fun j u q=>by rw [ad_add]; exact p2 j u q) (ad b2 o2) rows2.length cap2 us2 (by rw [i2]; exact hl2) hus2
    (by omega) (by omega) (growslice_fits (by omega) (by rw [i3]; exact hbig))
   exact ⟨_,_,S3,by rw [append_types hu ht]; exact hr,rfl,g1,g2,g3,g4,g5⟩
end
end Go.TV
namespace Go.TV
def scRows (rows:List (List V)):Bool:=rows.all fun r=>r.all V.isSc
def qR (rows:List (List V)):Bool:=rows.all fun r=>r.all V.alive
def Env.src (e:Env) (k:C):Option (Nat×List (List V)×Env):=
 match k with
 | .ref i []=>(match e.take (.ref i []) with | some (.list true m rows,e')=>some (m,rows,e') | _=>none)
 | .v (.list _ m rows)=>some (m,rows,e)
 | k=>(e.rows k).bind fun q=>if scRows q.2=true then some (q.1,q.2,e) else none
def Env.newAt (e:Env) (k:C) (o:Oper) (n:Nat) (rows:List (List V)):Option Env:=
 match k with
 | .ref i []=>if e.np≤i then ({e with ob:=(i,.list true n rows) :: e.ob,sl:=slMap (C.killA i) e.sl}:Env).putO o.dst (.pl (.one (.ref i []))) else e.newListO o n rows
 | _=>e.newListO o n rows
def evAppend (T:Nat→Option TyI) (o:Oper) (t u:Nat) (x y:Operand) (e:Env):Option Env:=
 (T t).bind fun d=>(T u).bind fun du=>match d.kd,du.kd with
  | .slice el,.slice _=>(T el).bind fun de=>if de.size≠0∧de.bytes≤256 then
    (e.cl x).bind fun kx=>(e.cl y).bind fun ky=>(e.take kx).bind fun q=>match q.1 with
     | .list true n rows=>if n=de.size then (q.2.src ky).bind fun z=>if z.1=n∧rows.length+z.2.1.length≤549755813888∧qR z.2.1=true then z.2.2.newAt kx o n (rows++z.2.1) else none else none
     | _=>none
    else none
  | _,_=>none
section
variable {gG:GG} {c:Ctx gG} {e e':Env} {a:Act} {w:World} {D:CS} {hs:Nat→Value} {S:CS} {X:Cfg} {o:Oper}
theorem sc_emp {n b o':Nat}:∀ (rows:List (List V)) (k:Nat) (S1:CS),scRows rows=true→RepRows w D n b o' rows k S1→S1=emp
 | [],_,_,_,h=>h
 | r :: rs,k,S1,hs,h=>by
  obtain ⟨T1,T2,h1,h2,h3,h4,rfl⟩:=h
  simp only [scRows,List.all_cons,Bool.and_eq_true] at hs
  have e2:=sc_emp rs (k+1) T2 hs.2 h3
  have e1:∀ (r:List V) (rd:Nat→Option Value) (k:Nat) (T:CS),r.all V.isSc=true→RepRow w D rd r k T→T=emp:=by
   intro r
   induction r with
   | nil=>intro _ _ _ _ h; exact h
   | cons v r ih =>
    intro rd k T hs h
    obtain ⟨u,U1,U2,g1,g2,g3,g4,rfl⟩:=h
    simp only [List.all_cons,Bool.and_eq_true] at hs
    have:=ih rd (k+1) U2 hs.2 g3
    subst this
    cases v <;> simp [V.isSc] at hs
    obtain ⟨_,_,rfl⟩:=g2
    exact cup_emp emp
  rw [e1 r _ _ T1 hs.1 h2,e2,cup_emp]
theorem lk_take_none {k:C} {x:V} {i:Nat} (h:StD c e a w D hs S) (hi:lk i e.ob=none) (hk:e.take k=some (x,e')):lk i e'.ob=none:=by
 cases k with
 | v y=>injection hk with hk; injection hk with h1 h2; subst h2; exact hi
 | ba row=>injection hk with hk; injection hk with h1 h2; subst h2; exact hi
 | ref m p =>
  cases p with
  | nil =>
   simp only [Env.take] at hk
   obtain ⟨v,h1,h2⟩:=Option.map_eq_some_iff.1 hk
   injection h2 with h2 h3
   subst h3
   by_cases q:i=m
   ·subst q; exact ObRep.del e.ob _ h.ob
   ·simp only [lk_delO_ne q]; exact hi
  | cons s p =>
   simp only [Env.take] at hk
   obtain ⟨v,h1,h2⟩:=zbi hk
   obtain ⟨y,h3,h2⟩:=Option.map_eq_some_iff.1 h2
   injection h2 with h2 h4
   subst h4
   by_cases q:i=m
   ·subst q; rw [hi] at h1; cases h1
   ·simp only [lk_setO_ne q]; exact hi
 | _=>cases hk
theorem StD.src (h:StD c e a w D hs S) {k:C} {m:Nat} {rows:List (List V)} {u:Value} (hk:e.src k=some (m,rows,e')) (hu:CRep w D hs e.nx e.ob k u) :
  ∃ S2 S',(∃ A cap,u=.slice A rows.length cap∧((True∧rows=[]∧S2=emp)∨∃ b o,A=some (ad b o)∧RepRows w D m b o rows 0 S2))∧StD c e' a w D hs S'∧TV.dj S2 S'∧sub S2 S∧sub S' S ∧
   e'.nx=e.nx∧e'.np=e.np∧e'.N=e.N∧(∀ i,lk i e.ob=none→lk i e'.ob=none):=by
 unfold Env.src at hk
 split at hk
 ·rename_i i
  split at hk
  case h_2=>cases hk
  rename_i m' rows' e1 ht
  injection hk with hk
  injection hk with h1 h2
  injection h2 with h2 h3
  subst h1
  subst h2
  subst h3
  obtain ⟨S1,S',g1,g2,g3,g4,g5,g6,g7,g8,g9⟩:=h.take ht hu
  rcases g1 with ⟨rfl,q,rfl⟩ | ⟨b,o',cap,T,rfl,k1,k2,k3,k4,rfl⟩
  ·exact ⟨emp,S',⟨none,0,nilish_own q,.inl ⟨trivial,rfl,rfl⟩⟩,g2,emp_dj _,fun _ _ q=>q.elim,g5,g6,g7,g8,fun i hi=>lk_take_none h hi ht⟩
  ·exact ⟨T,S',⟨_,cap,rfl,.inr ⟨b,o',rfl,k2⟩⟩,g2,r_dj g3,fun x y q=>g4 x y (.inr q),g5,g6,g7,g8,fun i hi=>lk_take_none h hi ht⟩
 ·rename_i own m' rows'
  injection hk with hk
  injection hk with h1 h2
  injection h2 with h2 h3
  subst h1
  subst h2
  subst h3
  rcases hu with ⟨rfl,q,_⟩ | ⟨b,o',cap,T,rfl,k1,k2,k3⟩
  ·obtain ⟨A,rfl⟩:=nilish_len q
   exact ⟨emp,S,⟨A,0,rfl,.inl ⟨trivial,rfl,rfl⟩⟩,h,emp_dj _,fun _ _ q=>q.elim,qA S,rfl,rfl,rfl,fun _ q=>q⟩
  ·have hT:T=emp:=by
    cases own with
    | true=>exact emp_r k3.2.2
    | false=>exact k3.1
   subst hT
   exact ⟨emp,S,⟨_,cap,rfl,.inr ⟨b,o',rfl,k2⟩⟩,h,emp_dj _,fun _ _ q=>q.elim,qA S,rfl,rfl,rfl,fun _ q=>q⟩
 ·obtain ⟨⟨m',rows'⟩,h1,h2⟩:=zbi hk
  split at h2
  case isFalse=>cases h2
  rename_i hsc
  injection h2 with h2
  injection h2 with h3 h2
  injection h2 with h2 h4
  subst h3
  subst h2
  subst h4
  obtain ⟨A,cap,g1,g2⟩:=h.rows h1 hu
  refine ⟨emp,S,⟨A,cap,g1,?_⟩,h,emp_dj _,fun _ _ q=>q.elim,qA S,rfl,rfl,rfl,fun _ q=>q⟩
  rcases g2 with ⟨_,g2⟩ | ⟨b,o',S1,rfl,g3,_⟩
  ·exact .inl ⟨trivial,g2,rfl⟩
  ·have:=sc_emp _ _ _ hsc g3
   subst this
   exact .inr ⟨b,o',rfl,g3⟩
theorem StD.newAt (h:StD c e a w D hs S) {k:C} {n:Nat} {rows:List (List V)} {u:Value} {S1:CS} (hk:∀ i,k=.ref i []→lk i e.ob=none∧i < e.nx) (hv:Rep w D (.list true n rows) u S1) (hj:TV.dj S1 S) (hjD:TV.dj S1 D)
  (h0:∀ b o,S1 b o→c.S0 b o∨c.w0.heap.size≤b) (hh:hdr u=true) (he:e.newAt k o n rows=some e'):St c e' (a.put o.dst u) w:=by
 have dflt:e.newListO o n rows=some e'→St c e' (a.put o.dst u) w:=fun he=>by
  have:=h.obj hv hj hjD h0
  exact ⟨D,_,_,this.putO he (ref_new (by simp) hh)⟩
 unfold Env.newAt at he
 split at he
 ·rename_i i
  split at he
  ·rename_i hnp
   obtain ⟨k1,k2⟩:=hk i rfl
   have:=h.objAt k1 k2 hnp hv hj hjD h0
   refine ⟨D,_,_,this.putO he ⟨k2,fun v' x' q1 q2=>⟨_,rfl,?_,?_⟩⟩⟩
   ·simpa using hh
   ·simp
  ·exact dflt he
 ·exact dflt he
theorem evAppend_ok (h:StD c e a w D hs S) {t u:Nat} {x y:Operand} (ho:o.op=.call {callee:=.builtin .append,args:=#[x,y],argTypes:=#[t,u]}) (he:evAppend X.T o t u x y e=some e'):Did X.P c o a w e':=by
 obtain ⟨d,h1,h2⟩:=zbi he
 obtain ⟨du,h3,h2⟩:=zbi h2
 split at h2
 case h_2=>cases h2
 rename_i el e2 hk1 hk2
 obtain ⟨de,h4,h2⟩:=zbi h2
 split at h2
 case isFalse=>cases h2
 rename_i hsz
 obtain ⟨kx,h5,h2⟩:=zbi h2
 obtain ⟨ky,h6,h2⟩:=zbi h2
 obtain ⟨⟨tr,e1⟩,h7,h2⟩:=zbi h2
 simp only at h2
 split at h2
 case h_2=>cases h2
 rename_i n rows
 split at h2
 case isFalse=>cases h2
 rename_i hn
 subst hn
 obtain ⟨⟨m,rows2,e3⟩,h8,h2⟩:=zbi h2
 simp only at h2
 split at h2
 case isFalse=>cases h2
 rename_i hc
 obtain ⟨c1,c2,c3⟩:=hc
 subst c1
 obtain ⟨S1,S',g1,g2,g3,g4,g5,g6,g7,g8,g9⟩:=h.take h7 (h.cl h5)
 obtain ⟨S2,S'',f1,f2,f3,f4,f5,f6,f7,f8,f9⟩:=g2.src h8 (g9 _ _ (h.cl h6))
 obtain ⟨v,w',S3,r1,r2,r3,r4,r5,r6,r7⟩:=append_done (X:=X) f2 (ty:=o.type) (jF (X.hT _ _ h1) hk1) (jF (X.hT _ _ h3) hk2) (X.hT _ _ h4) g1 f1 (dj_sub_r g3 f4) (dj_sub_r g3 f5) f3
  (dj_sub h.dj g4) (dj_sub h.dj (qZ f4 g5)) (fun b o q=>h.ob.blt b o (g5 b o (f4 b o q))) (fun b o q=>h.Ss b o (g4 b o q)) (fun b o q=>h.Ss b o (g5 b o (f4 b o q))) hsz.1 hsz.2 c2
  (fun r hr x hx=>by
   simp only [qR,List.all_eq_true] at c3
   exact c3 r hr x hx)
 refine ⟨v,w',.inl ?_,r3.newAt (fun i hi=>?_) r4 r5 r6 r7 r2 h2⟩
 ·simp [execOp,ho,resolve,invoke,builtin,r1]
 ·subst hi
  have hcl:=h.cl h5
  simp only [Env.take] at h7
  obtain ⟨v0,z1,z2⟩:=Option.map_eq_some_iff.1 h7
  injection z2 with z2 z3
  subst z3
  exact ⟨f9 i (ObRep.del e.ob _ h.ob),by rw [f6]; exact hcl.1⟩
end
end Go.TV
namespace Go.TV
def wpV (X:Cfg) (c:Code) (Post:Exit→Env→Prop) (e:Env):Prop:=
 ∀ (k:Ctx X.G) (a:Act) (w:World),St k e a w→c.wp X.P (fun x a' w'=>∃ e',Post x e'∧St k e' a' w') a w
def opsV (X:Cfg) (ops:Array Oper) (l:List Oper) (Post:Exit→Env→Prop) (e:Env):Prop:=
 ∀ (k:Ctx X.G) (a:Act) (w:World),St k e a w→wpList X.P ops (fun x a' w'=>∃ e',Post x e'∧St k e' a' w') l a w
section
variable {X:Cfg} {Post:Exit→Env→Prop} {e e':Env}
theorem wpV_mono {c:Code} {Post':Exit→Env→Prop} (h:wpV X c Post e) (hp:∀ x e,Post x e→Post' x e):wpV X c Post' e:=
 fun k a w hs=>Code.wp_mono (fun x a w ⟨e',h1,h2⟩=>⟨e',hp x e' h1,h2⟩) (h k a w hs)
theorem wpV_skip (h:Post .normal e):wpV X .skip Post e:=fun k a w hs=>wp_skip ⟨e,h,hs⟩
theorem wpV_ret (h:Post .ret e):wpV X .ret Post e:=fun k a w hs=>wp_ret ⟨e,h,hs⟩
theorem wpV_exit {id:Nat} (h:Post (.exit id) e):wpV X (.exit id) Post e:=fun k a w hs=>wp_exit ⟨e,h,hs⟩
def thenV (next:Env→Prop) (Post:Exit→Env→Prop):Exit→Env→Prop
 | .normal,e=>next e
 | x,e=>Post x e
theorem wpV_seq {c d:Code} (h:wpV X c (thenV (wpV X d Post) Post) e):wpV X (.seq c d) Post e:=fun k a w hs=>by
 refine wp_seq (Code.wp_mono (fun x a w hq=>?_) (h k a w hs))
 obtain ⟨e',h1,h2⟩:=hq
 cases x with
 | normal=>exact h1 k a w h2
 | _=>exact ⟨e',h1,h2⟩
def blockV (id:Nat) (Post:Exit→Env→Prop):Exit→Env→Prop
 | .exit id',e=>if id'=id then Post .normal e else Post (.exit id') e
 | x,e=>Post x e
theorem zI {id:Nat} {c:Code} (h:wpV X c (blockV id Post) e):wpV X (.block id c) Post e:=fun k a w hs=>by
 refine wp_block (Code.wp_mono (fun x a w hq=>?_) (h k a w hs))
 obtain ⟨e',h1,h2⟩:=hq
 cases x with
 | exit id' =>
  simp only [Exit.inBlock,blockV] at h1 ⊢
  split
  ·rename_i hid
   rw [if_pos hid] at h1
   exact ⟨e',h1,h2⟩
  ·rename_i hid
   rw [if_neg hid] at h1
   exact ⟨e',h1,h2⟩
 | _=>exact ⟨e',h1,h2⟩
theorem wpV_cond {x:Operand} {b:Bool} {c d:Code} (hx:e.sc x=some (.bool b)) (h1:b=true→wpV X c Post e) (h2:b=false→wpV X d Post e):wpV X (.cond x c d) Post e:=fun k a w hs=>by
 obtain ⟨D,hs',S,hd⟩:=hs
 exact wp_cond_split (hd.sc hx).1 (fun hb=>h1 hb k a w ⟨D,hs',S,hd⟩) (fun hb=>h2 hb k a w ⟨D,hs',S,hd⟩)
theorem wpV_loop {c:Code} (I:Nat→Env→Prop) {n:Nat} (h0:I n e) (h:∀ n e,I n e→wpV X c (thenV (fun e'=>∃ m,m < n∧I m e') Post) e):wpV X (.loop c) Post e:=fun k a w hs=>by
 intro b kk cs
 have key:∀ n e a w,I n e→St k e a w→∃ x a' w',(∃ e',Post x e'∧St k e' a' w')∧Arrives X.P (lone (b.at a (.code c :: .inLoop c :: kk)) cs w) b kk cs x a' w':=by
  intro n
  induction n using Nat.strongRecOn with
  | _ n ih =>
   intro e a w hI hs
   obtain ⟨x,a₁,w₁,⟨e₁,hq,hs₁⟩,harr⟩:=h n e hI k a w hs b (.inLoop c :: kk) cs
   cases x with
   | normal =>
    obtain ⟨m,hlt,hI₁⟩:=hq
    obtain ⟨x₂,a₂,w₂,hq₂,harr₂⟩:=ih m hlt e₁ a₁ w₁ hI₁ hs₁
    exact ⟨x₂,a₂,w₂,hq₂,.of_steps (Steps.trans harr (.one step_inLoop)) harr₂⟩
   | exit id=>exact ⟨_,a₁,w₁,⟨e₁,hq,hs₁⟩,.pass (x:=.inLoop c) rfl (fun _ _=>.inl (by simp)) harr⟩
   | goto l=>exact ⟨_,a₁,w₁,⟨e₁,hq,hs₁⟩,.pass (x:=.inLoop c) rfl (fun _ _=>.inl (by simp)) harr⟩
   | ret=>exact ⟨_,a₁,w₁,⟨e₁,hq,hs₁⟩,.pass (x:=.inLoop c) rfl (fun _ _=>.inl (by simp)) harr⟩
   | panic ch=>exact ⟨_,a₁,w₁,⟨e₁,hq,hs₁⟩,.pass (x:=.inLoop c) rfl (fun _ _=>.inl (by simp)) harr⟩
   | outgrown=>exact ⟨_,a₁,w₁,⟨e₁,hq,hs₁⟩,.pass (x:=.inLoop c) rfl (fun _ _=>.inl (by simp)) harr⟩
 obtain ⟨x,a',w',hq,harr⟩:=key n e a w h0 hs
 exact ⟨x,a',w',hq,.of_steps (.one step_loop) harr⟩
theorem zA {id:Nat} {l:List Oper} (h:opsV X l.toArray l Post e):wpV X (.region id l.toArray false) Post e:=fun k a w hs=>wp_region_lit (h k a w hs)
theorem zG {ops:Array Oper} (h:Post .normal e):opsV X ops [] Post e:=fun k a w hs=>wpList_nil ⟨e,h,hs⟩
def Does (X:Cfg) (o:Oper) (e e':Env):Prop:=∀ (k:Ctx X.G) (a:Act) (w:World),St k e a w→Did X.P k o a w e'
theorem Did.upon {P:Program} {gG:GG} {k:Ctx gG} {o:Oper} {a:Act} {w:World} {e':Env} {next:Act→World→Prop} {Q:Exit→Act→World→Prop} (h:Did P k o a w e') (hn:∀ a w,St k e' a w→next a w):o.wp P a w next Q:=by
 obtain ⟨u,w',hr,hs⟩:=h
 unfold Oper.wp
 rcases hr with hr | ⟨hr,rfl⟩ <;> rw [hr]
 ·exact hn _ _ hs
 ·exact hn _ _ hs
theorem opsV_op {ops:Array Oper} {o:Oper} {l:List Oper} (hg:o.guard=none) (hd:Does X o e e') (h:opsV X ops l Post e'):opsV X ops (o :: l) Post e:=fun k a w hs =>
 wpList_plain hg (fun K hK=>(hd k a w hs).upon (fun a w hs'=>hK a w (h k a w hs')))
theorem StD.wanted {gG:GG} {k:Ctx gG} {a:Act} {w:World} {D:CS} {hs:Nat→Value} {S:CS} (hd:StD k e a w D hs S) {ops:Array Oper} {o oj:Oper} {j d:Nat} {want b:Bool} (hg:o.guard=some (j,want)) (hj:ops[j]? = some oj) (hjd:oj.dst=some d) (hb:e.sc (.tmp d)=some (.bool b)) :
  Region.wanted o (yielded ops a.tmps)=(b == want):=by
 have hbv:=(hd.sc hb).1
 have hsz:d < a.tmps.size:=by
  rcases Nat.lt_or_ge d a.tmps.size with q | q
  ·exact q
  ·simp only [Act.eval,Array.getD_eq_getD_getElem?,Array.getElem?_eq_none q,Option.getD_none] at hbv
   cases hbv
 have hy:yielded ops a.tmps j=some b:=by
  simp only [Act.eval,Array.getD_eq_getD_getElem?,Array.getElem?_eq_getElem hsz,Option.getD_some] at hbv
  simp [yielded,hj,hjd,Array.getElem?_eq_getElem hsz,hbv]
 simp only [Region.wanted,hg,hy]
 cases b <;> cases want <;> rfl
theorem StD.unwanted {gG:GG} {k:Ctx gG} {a:Act} {w:World} {D:CS} {hs:Nat→Value} {S:CS} (hd:StD k e a w D hs S) {ops:Array Oper} {o oj:Oper} {j d:Nat} {want:Bool} (hg:o.guard=some (j,want)) (hj:ops[j]? = some oj) (hjd:oj.dst=some d) (hb:e.val (.tmp d)=some (.tup [])) :
  Region.wanted o (yielded ops a.tmps)=false:=by
 obtain ⟨us,h1,h2⟩:=hd.sl d _ hb
 have h2:us=[]:=h2
 subst h2
 have hy:yielded ops a.tmps j=none:=by
  rcases Nat.lt_or_ge d a.tmps.size with q | q
  ·simp only [Array.getD_eq_getD_getElem?,Array.getElem?_eq_getElem q,Option.getD_some] at h1
   simp [yielded,hj,hjd,Array.getElem?_eq_getElem q,h1]
  ·simp [yielded,hj,hjd,Array.getElem?_eq_none q]
 simp [Region.wanted,hg,hy]
theorem opsV_guard {ops:Array Oper} {o oj:Oper} {l:List Oper} {j d:Nat} {want b:Bool} (hg:o.guard=some (j,want)) (hj:ops[j]? = some oj) (hjd:oj.dst=some d) (hb:e.sc (.tmp d)=some (.bool b))
  (h1:b=want→opsV X ops ({o with guard:=none} :: l) Post e) (h2:b=!want→∃ e',e.putO o.dst (.tup [])=some e'∧opsV X ops l Post e'):opsV X ops (o :: l) Post e:=fun k a w hs=>by
 obtain ⟨D,hs',S,hd⟩:=hs
 have hw:=hd.wanted hg hj hjd hb
 by_cases q:b=want
 ·have:=h1 q k a w ⟨D,hs',S,hd⟩
  have hw':Region.wanted {o with guard:=none} (yielded ops a.tmps)=true:=rfl
  unfold wpList at this ⊢
  rw [hw'] at this
  rw [hw,show (b == want)=true by simp [q]]
  simp only [if_true] at this ⊢
  exact this
 ·have q':b=!want:=by cases b <;> cases want <;> simp_all
  obtain ⟨e',h3,h4⟩:=h2 q'
  unfold wpList
  rw [hw,show (b == want)=false by simp [q]]
  simp only [Bool.false_eq_true,if_false]
  exact h4 k _ w ⟨D,hs',S,hd.putO h3 (u:=undef) ⟨[],rfl,rfl⟩⟩
theorem opsV_dead {ops:Array Oper} {o oj:Oper} {l:List Oper} {j d:Nat} {want:Bool} (hg:o.guard=some (j,want)) (hj:ops[j]? = some oj) (hjd:oj.dst=some d) (hb:e.val (.tmp d)=some (.tup []))
  (he:e.putO o.dst (.tup [])=some e') (h:opsV X ops l Post e'):opsV X ops (o :: l) Post e:=fun k a w ⟨D,hs,S,hd⟩=>by
 have hw:=hd.unwanted hg hj hjd hb
 unfold wpList
 rw [hw]
 simp only [Bool.false_eq_true,if_false]
 exact h k _ w ⟨D,hs,S,hd.putO he (u:=undef) ⟨[],rfl,rfl⟩⟩
def evOp (T:Nat→Option TyI) (o:Oper) (e:Env):Option Env:=
 match o.op with
 | .move x=>evMove o x e
 | .assign x=>evAssign o x e
 | .pick c x y=>evPick o c x y e
 | .binOp op t x y _=>evBin T o op t x y e
 | .unOp op _ x=>evUn o op x e
 | .extract x i=>evExtract o x i e
 | .nilCheck x=>evNil o x e
 | .fieldAddr t x f=>evFieldAddr T o t x f e
 | .indexAddr t x i=>evIndexAddr T o t x i e
 | .index t x i=>evIndex T o t x i e
 | .field t x f=>evField T o t x f e
 | .load t x=>evLoad T o t x e
 | .slice t x lo hi mx=>evSlice T o t x lo hi mx e
 | .convert s d x=>evConv T o s d x e
 | .alloc t=>evAlloc T o t e
 | .box _ x=>evBox o x e
 | .build t ps=>evBuild T o t ps.toList e
 | .buildSlice t n ps=>evBuildSlice T o t n ps.toList e
 | .makeSlice t l k=>evMake T o t l k e
 | .store t x y=>evStore T o t x y e
 | .call {callee:=.builtin b,args:=as,argTypes:=ts}=>match b,as.toList,ts.toList with
  | .len,[x],[t]=>evLen T o t x e
  | .append,[x,y],[t,u]=>evAppend T o t u x y e
  | .min,[x,y],_=>evMinMax o false x y e
  | .max,[x,y],_=>evMinMax o true x y e
  | _,_,_=>none
 | _=>none
theorem evOp_ok {o:Oper} (he:evOp X.T o e=some e'):Does X o e e':=fun k a w ⟨D,hs,S,h⟩=>by
 unfold evOp at he
 split at he
 ·exact evMove_ok h ‹_› he
 ·exact evAssign_ok h ‹_› he
 ·exact evPick_ok h ‹_› he
 ·exact evBin_ok h ‹_› he
 ·exact evUn_ok h ‹_› he
 ·exact evExtract_ok h ‹_› he
 ·exact evNil_ok h ‹_› he
 ·exact evFieldAddr_ok h ‹_› he
 ·exact evIndexAddr_ok h ‹_› he
 ·exact evIndex_ok h ‹_› he
 ·exact evField_ok h ‹_› he
 ·exact evLoad_ok h ‹_› he
 ·exact evSlice_ok h ‹_› he
 ·exact evConv_ok h ‹_› he
 ·exact evAlloc_ok h ‹_› he
 ·exact evBox_ok h ‹_› he
 ·exact evBuild_ok h ‹_› he
 ·exact evBuildSlice_ok h ‹_› he
 ·exact evMake_ok h ‹_› he
 ·exact evStore_ok h ‹_› he
 ·rename_i b as ts ho
  split at he
  ·rename_i x t h1 h2
   rw [show as = #[x] from Array.ext' h1,show ts = #[t] from Array.ext' h2] at ho
   exact evLen_ok h ho he
  ·rename_i x y t u h1 h2
   rw [show as = #[x,y] from Array.ext' h1,show ts = #[t,u] from Array.ext' h2] at ho
   exact evAppend_ok h ho he
  ·rename_i x y h1
   rw [show as = #[x,y] from Array.ext' h1] at ho
   exact evMin_ok h ho he
  ·rename_i x y h1
   rw [show as = #[x,y] from Array.ext' h1] at ho
   exact evMax_ok h ho he
  ·cases he
 ·cases he
end
end Go.TV
namespace Go.TV
mutual
def V.bor:V→V
 | .list _ n rows=>.list false n (qF rows)
 | .box _ row=>.box false (borRow row)
 | .sc v=>.sc v
 | .fn f caps=>.fn f caps
 | .bld _ _ _=>.dead
 | .dead=>.dead
def borRow:List V→List V
 | []=>[]
 | v :: r=>v.bor :: borRow r
def qF:List (List V)→List (List V)
 | []=>[]
 | r :: rs=>borRow r :: qF rs
end
theorem borRow_map:∀ (r:List V),borRow r=r.map V.bor
 | []=>rfl
 | v :: r=>by simp [borRow,borRow_map r]
theorem borRows_map:∀ (rs:List (List V)),qF rs=rs.map (·.map V.bor)
 | []=>rfl
 | r :: rs=>by simp [qF,borRow_map,borRows_map rs]
mutual
def V.noBor:V→Bool
 | .list own _ rows=>own && qP rows
 | .box own row=>own && noBorRow row
 | .sc _=>true
 | .fn _ caps=>caps.isEmpty
 | .bld _ _ _=>true
 | .dead=>true
def noBorRow:List V→Bool
 | []=>true
 | v :: r=>v.noBor && noBorRow r
def qP:List (List V)→Bool
 | []=>true
 | r :: rs=>noBorRow r && qP rs
end
theorem cup_emp_emp:cup emp emp=emp:=cup_emp emp
mutual
theorem Rep.lent {w:World} {D D2:CS}:∀ (v:V) (u:Value) (S:CS),Rep w D v u S→sub D D2→sub S D2→v.alive=true→Rep w D2 v.bor u emp
 | .sc _,_,_,h,_,_,_=>by obtain ⟨h1,h2,_⟩:=h; exact ⟨h1,h2,rfl⟩
 | .list own n rows,u,S,h,hD,hS,_=>by
  rcases h with ⟨rfl,h1,_⟩ | ⟨b,o,cap,S1,hu,hc,hr,hm⟩
  ·exact .inl ⟨rfl,h1.elim .inl (fun h1=>.inr ⟨rfl,h1.2⟩),rfl⟩
  ·have hl:(qF rows).length=rows.length:=by simp [borRows_map]
   have hsub:sub (rng b o (rows.length * n)) D2∧sub S1 D2:=by
    cases own with
    | true =>
     obtain ⟨_,_,rfl⟩:=hm
     have hcn:rows.length * n≤cap * n:=Nat.mul_le_mul_right n hc
     exact ⟨fun x y q=>hS x y (.inl ⟨q.1,q.2.1,by have:=q.2.2; omega⟩),fun x y q=>hS x y (.inr q)⟩
    | false=>obtain ⟨rfl,_,h3⟩:=hm; exact ⟨qZ h3 hD,fun _ _ q=>q.elim⟩
   exact .inr ⟨b,o,cap,emp,by rw [hl]; exact hu,by rw [hl]; exact hc,RepRows.lent n b o rows 0 S1 hr hD hsub.2,rfl,rfl,by rw [hl]; exact hsub.1⟩
 | .box own row,u,S,h,hD,hS,_=>by
  obtain ⟨b,o,S1,hu,hr,hm⟩:=h
  have hl:(borRow row).length=row.length:=by simp [borRow_map]
  have hsub:sub (rng b o row.length) D2∧sub S1 D2:=by
   cases own with
   | true=>obtain ⟨_,_,rfl⟩:=hm; exact ⟨fun x y q=>hS x y (.inl q),fun x y q=>hS x y (.inr q)⟩
   | false=>obtain ⟨rfl,_,h3⟩:=hm; exact ⟨qZ h3 hD,fun _ _ q=>q.elim⟩
  exact ⟨b,o,emp,hu,RepRow.lent row _ 0 S1 hr hD hsub.2,rfl,rfl,by rw [hl]; exact hsub.1⟩
 | .fn f caps,u,S,h,hD,_,_=>by
  obtain ⟨us,h1,h2,h3,_⟩:=h
  exact ⟨us,h1,h2,RepRow.frame hD (qM w D) caps _ _ 0 emp h3 (qM w emp) (fun _ _ _=>rfl),rfl⟩
 | .bld _ _ _,_,_,_,_,_,_=>rfl
 | .dead,_,_,_,_,_,h=>by cases h
theorem RepRow.lent {w:World} {D D2:CS}:∀ (vs:List V) (rd:Nat→Option Value) (k:Nat) (S:CS),RepRow w D rd vs k S→sub D D2→sub S D2→RepRow w D2 rd (borRow vs) k emp
 | [],_,_,_,_,_,_=>rfl
 | v :: vs,rd,k,S,h,hD,hS=>by
  obtain ⟨u,S1,S2,h1,h2,h3,h4,rfl⟩:=h
  have hv:Rep w D2 v.bor u emp:=by
   by_cases ha:v.alive=true
   ·exact Rep.lent v u S1 h2 hD (fun x y q=>hS x y (.inl q)) ha
   ·cases v <;> simp [V.alive] at ha
    rfl
  exact ⟨u,emp,emp,h1,hv,RepRow.lent vs rd (k+1) S2 h3 hD (fun x y q=>hS x y (.inr q)),emp_dj _,cup_emp_emp.symm⟩
theorem RepRows.lent {w:World} {D D2:CS}:∀ (n b o:Nat) (rs:List (List V)) (k:Nat) (S:CS),RepRows w D n b o rs k S→sub D D2→sub S D2→RepRows w D2 n b o (qF rs) k emp
 | _,_,_,[],_,_,_,_,_=>rfl
 | n,b,o,r :: rs,k,S,h,hD,hS=>by
  obtain ⟨S1,S2,h1,h2,h3,h4,rfl⟩:=h
  exact ⟨emp,emp,by rw [borRow_map,List.length_map]; exact h1,RepRow.lent r _ 0 S1 h2 hD (fun x y q=>hS x y (.inl q)),RepRows.lent n b o rs (k+1) S2 h3 hD (fun x y q=>hS x y (.inr q)),emp_dj _,cup_emp_emp.symm⟩
end
mutual
theorem Rep.free {w:World} {D D2:CS}:∀ (v:V) (u:Value) (S:CS),Rep w D v u S→v.noBor=true→Rep w D2 v u S
 | .sc _,_,_,h,_=>h
 | .list own n rows,u,S,h,hn=>by
  simp only [V.noBor,Bool.and_eq_true] at hn
  obtain ⟨rfl,hn⟩:=hn
  rcases h with h | ⟨b,o,cap,S1,hu,hc,hr,hm⟩
  ·exact .inl h
  ·exact .inr ⟨b,o,cap,S1,hu,hc,RepRows.free n b o rows 0 S1 hr hn,hm⟩
 | .box own row,u,S,h,hn=>by
  simp only [V.noBor,Bool.and_eq_true] at hn
  obtain ⟨rfl,hn⟩:=hn
  obtain ⟨b,o,S1,hu,hr,hm⟩:=h
  exact ⟨b,o,S1,hu,RepRow.free row _ 0 S1 hr hn,hm⟩
 | .fn f caps,u,S,h,hn=>by
  simp only [V.noBor,List.isEmpty_iff] at hn
  subst hn
  obtain ⟨us,h1,h2,_,h4⟩:=h
  exact ⟨us,h1,h2,rfl,h4⟩
 | .bld _ _ _,_,_,h,_=>h
 | .dead,_,_,h,_=>h
theorem RepRow.free {w:World} {D D2:CS}:∀ (vs:List V) (rd:Nat→Option Value) (k:Nat) (S:CS),RepRow w D rd vs k S→noBorRow vs=true→RepRow w D2 rd vs k S
 | [],_,_,_,h,_=>h
 | v :: vs,rd,k,S,h,hn=>by
  simp only [noBorRow,Bool.and_eq_true] at hn
  obtain ⟨u,S1,S2,h1,h2,h3,h4,h5⟩:=h
  exact ⟨u,S1,S2,h1,Rep.free v u S1 h2 hn.1,RepRow.free vs rd (k+1) S2 h3 hn.2,h4,h5⟩
theorem RepRows.free {w:World} {D D2:CS}:∀ (n b o:Nat) (rs:List (List V)) (k:Nat) (S:CS),RepRows w D n b o rs k S→qP rs=true→RepRows w D2 n b o rs k S
 | _,_,_,[],_,_,h,_=>h
 | n,b,o,r :: rs,k,S,h,hn=>by
  simp only [qP,Bool.and_eq_true] at hn
  obtain ⟨S1,S2,h1,h2,h3,h4,h5⟩:=h
  exact ⟨S1,S2,h1,RepRow.free r _ 0 S1 h2 hn.1,RepRows.free n b o rs (k+1) S2 h3 hn.2,h4,h5⟩
end
def qD:List (Ag V)→List V
 | []=>[]
 | .one x :: as=>x :: qD as
 | .agg xs :: as=>xs++qD as
def ArgsV {α:Type}:List (Ag α)→List Value→List Value→Prop
 | [],us,fl=>us=[]∧fl=[]
 | .one _ :: as,us,fl=>∃ u us' fl',us=u :: us'∧fl=u :: fl'∧ArgsV as us' fl'
 | .agg xs :: as,us,fl=>∃ vs us' fl',us=.agg vs.toArray :: us'∧vs.length=xs.length∧fl=vs++fl'∧ArgsV as us' fl'
def ResV (rs:List (Ag V)) (u:Value) (fl:List Value):Prop:=
 match rs with
 | [r]=>ArgsV [r] [u] fl
 | rs=>∃ us:List Value,u=.tuple us.toArray∧ArgsV rs us fl
def Fn (X:Cfg) (f:Nat) (as rs:List (Ag V)) (fin:List (Nat×V)):Prop:=
 (∃ fn, X.P.funcs[f]? = some fn ∧ fn.body.isSome = true ∧ (fn.name == "runtime.NumGoroutine") = false) ∧
 ∀ (w:World) (D S:CS) (us fl:List Value),ArgsV as us fl→RepRow w D (fun k=>fl[k]?) (qD as) 0 S→dj S D→(∀ b o,D b o→b < w.heap.size)→Glo X.G w S D →
  Calls X.P f us.toArray w fun e w'=>∃ u fr D' S1 S2,e=.returned u∧ResV rs u fr∧RepRow w' D' (fun k=>fr[k]?) (qD rs) 0 S1∧ObRep w' D' (fun i=>fl.getD i undef) fin S2∧dj S1 S2∧dj (cup S1 S2) D' ∧
   Frm w w' S∧(∀ b o,cup S1 S2 b o→S b o∨w.heap.size≤b)∧sub D D'∧(∀ b o,D' b o→D b o∨S b o∨w.heap.size≤b)∧(∀ b o,D' b o→b < w'.heap.size)
def V.own:V→Bool
 | .list true _ _ | .box true _ | .bld _ _ _=>true
 | _=>false
def entC (x:V) (k:Nat):C:=if x.own=true then .ref k [] else .v x
def entCs:List V→Nat→List C
 | [],_=>[]
 | x :: xs,k=>entC x k :: entCs xs (k+1)
def entOs:List V→Nat→List (Nat×V)
 | [],_=>[]
 | x :: xs,k=>if x.own=true then (k,x) :: entOs xs (k+1) else entOs xs (k+1)
def entS:List (Ag V)→Nat→Nat→List (Nat×Sl)
 | [],_,_=>[]
 | .one x :: as,t,k=>(t,.pl (.one (entC x k))) :: entS as (t+1) (k+1)
 | .agg xs :: as,t,k=>(t,.pl (.agg (entCs xs k))) :: entS as (t+1) (k+xs.length)
def entry (as:List (Ag V)) (N:Nat):Env:={N:=N,np:=(qD as).length,nx:=(qD as).length,sl:=entS as 0 0,ob:=entOs (qD as) 0}
theorem lk_entOs:∀ (xs:List V) (k i:Nat) (v:V),lk i (entOs xs k)=some v→k≤i∧i < k+xs.length
 | [],_,_,_,h=>by cases h
 | x :: xs,k,i,v,h=>by
  simp only [entOs] at h
  have hrec:lk i (entOs xs (k+1))=some v→k≤i∧i < k+(x :: xs).length:=fun h=>by
   have:=lk_entOs xs (k+1) i v h
   simp
   omega
  split at h
  ·simp only [lk_cons] at h
   split at h
   ·rename_i e
    subst e
    simp
   ·exact hrec h
  ·exact hrec h
theorem own_hdr {w:World} {D:CS} {x:V} {u:Value} {S:CS} (h:Rep w D x u S) (ho:x.own=true):hdr u=true:=by
 cases x with
 | list own n rows=>rcases h with ⟨_,q,_⟩ | ⟨_,_,_,_,rfl,_⟩ <;> first | (obtain ⟨a,rfl⟩:=nilish_len q; rfl) | rfl
 | box own row=>obtain ⟨_,_,_,rfl,_⟩:=h; rfl
 | bld _ _ _=>obtain ⟨_,_,_,rfl,_⟩:=h; rfl
 | _=>simp [V.own] at ho
theorem notOwn_emp {w:World} {D:CS} {x:V} {u:Value} {S:CS} (h:Rep w D x u S) (ho:x.own=false):S=emp:=by
 cases x with
 | sc _=>exact h.2.2
 | list own n rows =>
  cases own with
  | true=>simp [V.own] at ho
  | false =>
   rcases h with ⟨_,_,rfl⟩ | ⟨_,_,_,_,_,_,_,_,rfl,_⟩ <;> rfl
 | box own row =>
  cases own with
  | true=>simp [V.own] at ho
  | false=>obtain ⟨_,_,_,_,_,_,rfl,_⟩:=h; rfl
 | fn f caps=>obtain ⟨_,_,_,_,rfl⟩:=h; rfl
 | bld _ _ _=>simp [V.own] at ho
 | dead=>exact h
theorem ent_ob {w:World} {D:CS} {hs:Nat→Value}:∀ (xs:List V) (rd:Nat→Option Value) (k:Nat) (S:CS),RepRow w D rd xs k S→(∀ i,k≤i→i < k+xs.length→rd i=some (hs i))→ObRep w D hs (entOs xs k) S
 | [],_,_,_,h,_=>h
 | x :: xs,rd,k,S,h,hr=>by
  obtain ⟨u,S1,S2,h1,h2,h3,h4,rfl⟩:=h
  have hu:u=hs k:=by have:=hr k (Nat.le_refl _) (by simp); rw [h1] at this; injection this
  subst hu
  have ih:=ent_ob xs rd (k+1) S2 h3 (fun i h1 h2=>hr i (by omega) (by simp; omega))
  simp only [entOs]
  split
  ·refine ⟨S1,S2,?_,h2,ih,h4,rfl⟩
   cases q:lk k (entOs xs (k+1)) with
   | none=>rfl
   | some v=>have:=lk_entOs xs (k+1) k v q; omega
  ·rename_i ho
   rw [notOwn_emp h2 (by simpa using ho),emp_cup]
   exact ih
theorem ent_cs {w:World} {D:CS} {hs:Nat→Value} {nx:Nat} {ob:List (Nat×V)}:∀ (xs:List V) (rd:Nat→Option Value) (k:Nat) (S:CS) (us:List Value),RepRow w D rd xs k S→us.length=xs.length →
  (∀ i,k≤i→i < k+xs.length→rd i=some (hs i))→(∀ j u,us[j]? = some u→hs (k+j)=u)→k+xs.length≤nx→CsRep w D hs nx ob (entCs xs k) us
 | [],_,_,_,us,_,hl,_,_,_=>List.length_eq_zero_iff.1 hl
 | x :: xs,rd,k,S,us,h,hl,hr,hu,hn=>by
  obtain ⟨u,S1,S2,h1,h2,h3,h4,rfl⟩:=h
  have hk:u=hs k:=by have:=hr k (Nat.le_refl _) (by simp); rw [h1] at this; injection this
  cases us with
  | nil=>simp at hl
  | cons v us =>
   have hv:hs k=v:=hu 0 v rfl
   refine ⟨v,us,rfl,?_,ent_cs xs rd (k+1) S2 us h3 (by simpa using hl) (fun i a b=>hr i (by omega) (by simp; omega)) (fun j y hj=>?_) (by simp at hn; omega)⟩
   ·subst hk
    simp only [entC]
    simp at hn
    split
    ·rename_i ho
     refine ⟨by omega,fun _ _ _ hp=>?_⟩
     exact ⟨_,rfl,own_hdr h2 ho,hv⟩
    ·rename_i ho
     have:=notOwn_emp h2 (by simpa using ho)
     subst this
     rw [← hv]
     exact h2
   ·have:=hu (j+1) y (by simpa using hj)
    rw [show k+(j+1)=k+1+j by omega] at this
    exact this
theorem ent_sl {w:World} {D:CS} {hs:Nat→Value} {nx:Nat} {ob:List (Nat×V)}:∀ (as:List (Ag V)) (t k:Nat) (S:CS) (us fl:List Value) (rd:Nat→Option Value),ArgsV as us fl→RepRow w D rd (qD as) k S →
  (∀ i,k≤i→i < k+(qD as).length→rd i=some (hs i))→(∀ j u,fl[j]? = some u→hs (k+j)=u)→k+(qD as).length≤nx →
  ∀ t' s,lk t' (entS as t k)=some s→t≤t'∧∃ u,us[t' - t]? = some u∧SlRep w D hs nx ob s u
 | [],_,_,_,_,_,_,_,_,_,_,_,_,_,h=>by cases h
 | .one x :: as,t,k,S,us,fl,rd,ha,h,hr,hu,hn,t',s,hs'=>by
  obtain ⟨u,us',fl',rfl,rfl,ha'⟩:=ha
  simp only [qD] at h hr hn
  simp only [entS,lk_cons] at hs'
  split at hs'
  ·rename_i e
   subst e
   injection hs' with hs'
   subst hs'
   have h0:RepRow w D rd ([x]++qD as) k S:=h
   obtain ⟨T1,T2,g1,_⟩:=RepRow.split [x] (qD as) k S h0
   have:=ent_cs (nx:=nx) (ob:=ob) (hs:=hs) [x] rd k T1 [u] g1 rfl (fun i a b=>hr i a (by simp at b ⊢; omega)) (fun j y hj=>hu j y (by
    cases j with
    | zero=>simpa using hj
    | succ j=>simp at hj)) (by simp at hn ⊢; omega)
   obtain ⟨u',r,e1,e2,_⟩:=this
   injection e1 with e1 _
   subst e1
   exact ⟨Nat.le_refl _,u,by simp,e2⟩
  ·obtain ⟨u0,S1,S2,h1,h2,h3,h4,rfl⟩:=h
   obtain ⟨g1,v,g2,g3⟩:=ent_sl (nx:=nx) (ob:=ob) (hs:=hs) as (t+1) (k+1) S2 us' fl' rd ha' h3 (fun i a b=>hr i (by omega) (by simp; omega)) (fun j y hj=>by
    have:=hu (j+1) y (by simpa using hj)
    rwa [show k+(j+1)=k+1+j by omega] at this) (by simp at hn; omega) t' s hs'
   exact ⟨by omega,v,by rw [show t' - t=(t' - (t+1))+1 by omega]; simpa using g2,g3⟩
 | .agg xs :: as,t,k,S,us,fl,rd,ha,h,hr,hu,hn,t',s,hs'=>by
  obtain ⟨vs,us',fl',rfl,hl,rfl,ha'⟩:=ha
  simp only [qD] at h hr hn
  obtain ⟨T1,T2,g1,g2,_⟩:=RepRow.split xs (qD as) k S h
  simp only [List.length_append] at hr hn
  simp only [entS,lk_cons] at hs'
  split at hs'
  ·rename_i e
   subst e
   injection hs' with hs'
   subst hs'
   have:=ent_cs (nx:=nx) (ob:=ob) (hs:=hs) xs rd k T1 vs g1 hl (fun i a b=>hr i a (by omega)) (fun j y hj=>hu j y (by
    have:=(List.getElem?_eq_some_iff.1 hj).1
    rw [List.getElem?_append_left this]
    exact hj)) (by omega)
   exact ⟨Nat.le_refl _,_,by simp,vs,rfl,this⟩
  ·obtain ⟨g3,v,g4,g5⟩:=ent_sl (nx:=nx) (ob:=ob) (hs:=hs) as (t+1) (k+xs.length) T2 us' fl' rd ha' g2 (fun i a b=>hr i (by omega) (by omega)) (fun j y hj=>by
    have:=hu (vs.length+j) y (by rw [List.getElem?_append_right (by omega),Nat.add_sub_cancel_left]; exact hj)
    rwa [hl,← Nat.add_assoc] at this) (by omega) t' s hs'
   exact ⟨by omega,v,by rw [show t' - t=(t' - (t+1))+1 by omega]; simpa using g4,g5⟩
end Go.TV
namespace Go.TV
def Env.res1 (T:Nat→Option TyI) (e:Env):ResultVar→Option (Ag V×Env)
 | .tmp t=>match lk t e.sl with
  | some (.pl (.one k))=>(match e.takes [k] with | some ([x],e')=>some (.one x,e') | _=>none)
  | some (.pl (.agg ks))=>(e.takes ks).map fun q=>(.agg q.1,q.2)
  | _=>none
 | .cell a ty=>match lk a e.sl with
  | some (.pl (.one k))=>(T ty).bind fun d=>if e.sure k=true then (e.behind k d.size).bind fun l=>(match d.kd with
   | .struct _=>(e.takes l).map fun q=>(.agg q.1,q.2)
   | _=>(match e.takes l with | some ([x],e')=>some (.one x,e') | _=>none)) else none
  | _=>none
def evRes (T:Nat→Option TyI):List ResultVar→Env→Option (List (Ag V)×Env)
 | [],e=>some ([],e)
 | r :: rs,e=>(e.res1 T r).bind fun q=>(evRes T rs q.2).map fun z=>(q.1 :: z.1,z.2)
def resM (tmps:Array Value):ResultVar→Sem Value
 | .tmp t=>pure (tmps.getD t undef)
 | .cell a t=>do loadVar t (← asAddr (tmps.getD a undef))
section
variable {gG:GG} {c:Ctx gG} {e e':Env} {a:Act} {w:World} {D:CS} {hs:Nat→Value} {S:CS} {X:Cfg} {o:Oper}
theorem StD.res1 (h:StD c e a w D hs S) {r:ResultVar} {g:Ag V} (hr:e.res1 X.T r=some (g,e')) :
  ∃ u fl S1 S',(resM a.tmps r).run X.P w=.ok u w∧(∀ as us fl',ArgsV as us fl'→ArgsV (g :: as) (u :: us) (fl++fl'))∧RepRow w D (fun k=>fl[k]?) (qD [g]) 0 S1∧fl.length=(qD [g]).length∧StD c e' a w D hs S'∧TV.dj S1 S'∧sub S1 S∧sub S' S ∧
   e'.np=e.np∧e'.sl=e.sl:=by
 have takes_sl:∀ (ks:List C) (e e':Env) (xs:List V),e.takes ks=some (xs,e')→e'.sl=e.sl:=by
  intro ks
  induction ks with
  | nil=>intro e e' xs h; injection h with h; injection h with _ h; rw [← h]
  | cons k ks ih =>
   intro e e' xs h
   simp only [Env.takes] at h
   obtain ⟨⟨x,e1⟩,h1,h⟩:=zbi h
   simp only at h
   split at h
   case isFalse=>cases h
   obtain ⟨⟨ys,e2⟩,h2,h3⟩:=Option.map_eq_some_iff.1 h
   injection h3 with h3 h4
   subst h4
   rw [ih e1 e2 ys h2]
   cases k with
   | v y=>injection h1 with h1; injection h1 with _ h1; rw [← h1]
   | ba row=>injection h1 with h1; injection h1 with _ h1; rw [← h1]
   | ref i p =>
    cases p with
    | nil =>
     simp only [Env.take] at h1
     obtain ⟨v,_,h2⟩:=Option.map_eq_some_iff.1 h1
     injection h2 with _ h2
     rw [← h2]
    | cons s p =>
     simp only [Env.take] at h1
     obtain ⟨v,_,h2⟩:=zbi h1
     obtain ⟨y,_,h2⟩:=Option.map_eq_some_iff.1 h2
     injection h2 with _ h2
     rw [← h2]
   | _=>cases h1
 cases r with
 | tmp t =>
  simp only [Env.res1] at hr
  split at hr
  ·rename_i k hk
   split at hr
   case h_2=>cases hr
   rename_i x e1 ht
   injection hr with hr
   injection hr with h1 h2
   subst h1
   subst h2
   have hu:CRep w D hs e.nx e.ob k (a.tmps.getD t undef):=h.sl t _ hk
   obtain ⟨S1,S',f1,f2,f3,f4,f5,f6,f7,f8,f9,_⟩:=StD.takes [k] h ht ⟨_,[],rfl,hu,rfl⟩
   refine ⟨_,[a.tmps.getD t undef],S1,S',rfl,fun as us fl' ha=>⟨_,us,fl',rfl,rfl,ha⟩,f1,rfl,f4,f5,f6,f7,f9,takes_sl _ _ _ _ ht⟩
  ·rename_i ks hk
   obtain ⟨⟨xs,e1⟩,ht,hq⟩:=Option.map_eq_some_iff.1 hr
   injection hq with h1 h2
   subst h1
   subst h2
   obtain ⟨us,hu1,hu2⟩:AgRep w D hs e.nx e.ob (.agg ks) (a.tmps.getD t undef):=h.sl t _ hk
   obtain ⟨S1,S',f1,f2,f3,f4,f5,f6,f7,f8,f9,_⟩:=StD.takes ks h ht hu2
   refine ⟨_,us,S1,S',rfl,fun as vs fl' ha=>⟨us,vs,fl',by rw [hu1],f2.symm,rfl,ha⟩,by simpa [qD] using f1,by simp [qD,f2],f4,f5,f6,f7,f9,takes_sl _ _ _ _ ht⟩
  ·cases hr
 | cell t ty =>
  simp only [Env.res1] at hr
  split at hr
  case h_2=>cases hr
  rename_i k hk
  obtain ⟨d,hd,hr⟩:=zbi hr
  split at hr
  case isFalse=>cases hr
  rename_i hsure
  obtain ⟨l,hl,hr⟩:=zbi hr
  have hu:CRep w D hs e.nx e.ob k (a.tmps.getD t undef):=h.sl t _ hk
  obtain ⟨b,o',us,g1,g2,g3,g4⟩:=h.behind hl hu
  have hT:=X.hT _ _ hd
  split at hr
  ·rename_i fs hkd
   obtain ⟨⟨xs,e1⟩,ht,hq⟩:=Option.map_eq_some_iff.1 hr
   injection hq with h1 h2
   subst h1
   subst h2
   obtain ⟨S1,S',f1,f2,f3,f4,f5,f6,f7,f8,f9,_⟩:=StD.takes l h ht g4
   have hagg:d.kd.agg=true:=by rw [hkd]; rfl
   have hld:(loadVar ty (ad b o')).run X.P w=.ok (.agg us.toArray) w:=run_load_agg hT hagg g2 g3
   refine ⟨.agg us.toArray,us,S1,S',?_,fun as vs fl' ha=>⟨us,vs,fl',rfl,f2.symm,rfl,ha⟩,by simpa [qD] using f1,by simp [qD,f2],f4,f5,f6,f7,f9,takes_sl _ _ _ _ ht⟩
   simp only [resM,g1,asAddr,Sem.run_bind,Sem.run_pure,Result.andThen_ok]
   exact hld
  ·rename_i hkd
   split at hr
   case h_2=>cases hr
   rename_i x e1 ht
   injection hr with hr
   injection hr with h1 h2
   subst h1
   subst h2
   obtain ⟨S1,S',f1,f2,f3,f4,f5,f6,f7,f8,f9,_⟩:=StD.takes l h ht g4
   have hagg:d.kd.agg=false:=by
    cases hq:d.kd <;> simp [Kd.agg]
    rename_i l'
    exact hkd l' hq
   cases us with
   | nil=>simp at f2
   | cons u us =>
    have:us=[]:=by simpa using f2.symm
    subst this
    have hld:(loadVar ty (ad b o')).run X.P w=.ok u w:=run_load_one hT hagg (g3 0 u rfl)
    refine ⟨u,[u],S1,S',?_,fun as vs fl' ha=>⟨u,vs,fl',rfl,rfl,ha⟩,f1,rfl,f4,f5,f6,f7,f9,takes_sl _ _ _ _ ht⟩
    simp only [resM,g1,asAddr,Sem.run_bind,Sem.run_pure,Result.andThen_ok]
    exact hld
theorem flatA_cons (g:Ag V) (as:List (Ag V)):qD (g :: as)=qD [g]++qD as:=by
 cases g <;> simp [qD]
theorem StD.res:∀ (rs:List ResultVar) {e e':Env} {S:CS} (h:StD c e a w D hs S) {as:List (Ag V)},evRes X.T rs e=some (as,e') →
  ∃ us fl S1 S',(rs.mapM (resM a.tmps)).run X.P w=.ok us w∧ArgsV as us fl∧RepRow w D (fun k=>fl[k]?) (qD as) 0 S1∧us.length=rs.length∧StD c e' a w D hs S'∧TV.dj S1 S'∧sub S1 S∧sub S' S∧e'.np=e.np∧as.length=rs.length
 | [],e,e',S,h,as,hr=>by
  injection hr with hr
  injection hr with h1 h2
  subst h1
  subst h2
  exact ⟨[],[],emp,S,rfl,⟨rfl,rfl⟩,rfl,rfl,h,emp_dj S,fun _ _ q=>q.elim,qA S,rfl,rfl⟩
 | r :: rs,e,e',S,h,as,hr=>by
  simp only [evRes] at hr
  obtain ⟨⟨g,e1⟩,h1,hr⟩:=zbi hr
  obtain ⟨⟨as',e2⟩,h2,h3⟩:=Option.map_eq_some_iff.1 hr
  simp only [Prod.mk.injEq] at h3
  obtain ⟨h3,h4⟩:=h3
  subst h3
  subst h4
  obtain ⟨u,fl,S1,S',f1,f2,f3,f3l,f4,f5,f6,f7,f8,f9⟩:=h.res1 h1
  obtain ⟨us,fl',T1,T',g1,g2,g3,g3l,g4,g5,g6,g7,g8,g9⟩:=StD.res rs f4 h2
  refine ⟨u :: us,fl++fl',cup S1 T1,T',?_,f2 as' us fl' g2,?_,by simp [g3l],g4,cup_dj (dj_sub_r f5 g7) g5,fun b o q=>q.elim (f6 b o) (fun q=>f7 b o (g6 b o q)),qZ g7 f7,g8.trans f8,by simp [g9]⟩
  ·simp [List.mapM_cons,f1,g1]
  ·rw [flatA_cons]
   refine RepRow.join _ _ 0 S1 T1 (RepRow.frame (qA D) (qM w D) _ _ _ 0 S1 f3 (qM w S1) (fun j _ hj=>?_)) (RepRow.shift _ _ _ 0 _ T1 g3 (fun q hq=>?_)) (dj_sub_r f5 g6)
   ·rw [List.getElem?_append_left (by omega)]
   ·rw [Nat.zero_add,Nat.zero_add,← f3l,List.getElem?_append_right (by omega),Nat.add_sub_cancel_left]
def Env.fin (e:Env):List (Nat×V):=e.ob.filter fun q=>decide (q.1 < e.np)
theorem lk_filter {p:Nat×V→Bool} {i:Nat}:∀ (ob:List (Nat×V)),lk i ob=none→lk i (ob.filter p)=none
 | [],_=>rfl
 | (k,v) :: r,h=>by
  simp only [lk] at h
  split at h
  ·cases h
  ·rename_i e
   simp only [List.filter_cons]
   split
   ·simp only [lk,if_neg e]
    exact lk_filter r h
   ·exact lk_filter r h
theorem ObRep.filter {p:Nat×V→Bool}:∀ (ob:List (Nat×V)) (S:CS),ObRep w D hs ob S→∃ S',ObRep w D hs (ob.filter p) S'∧sub S' S
 | [],S,h=>⟨S,h,qA S⟩
 | (i,v) :: r,S,h=>by
  obtain ⟨S1,S2,h0,h1,h2,h3,rfl⟩:=h
  obtain ⟨S',g1,g2⟩:=ObRep.filter r S2 h2
  simp only [List.filter_cons]
  split
  ·exact ⟨cup S1 S',⟨S1,S',lk_filter r h0,h1,g1,dj_sub_r h3 g2,rfl⟩,fun x y q=>q.elim .inl (fun q=>.inr (g2 x y q))⟩
  ·exact ⟨S',g1,qZ g2 (sub_r _ _)⟩
theorem ObRep.hs_eq {hs':Nat→Value}:∀ (ob:List (Nat×V)) (S:CS),ObRep w D hs ob S→(∀ i v,(i,v) ∈ ob→hs' i=hs i)→ObRep w D hs' ob S
 | [],_,h,_=>h
 | (i,v) :: r,S,h,hh=>by
  obtain ⟨S1,S2,h0,h1,h2,h3,rfl⟩:=h
  exact ⟨S1,S2,h0,by rw [hh i v (by simp)]; exact h1,ObRep.hs_eq r S2 h2 (fun k x q=>hh k x (by simp [q])),h3,rfl⟩
def RetV (X:Cfg) (fn:Func) (rs:List (Ag V)) (fin:List (Nat×V)):Exit→Env→Prop:=fun x e=>(x=.ret∨x=.normal)∧∃ e',evRes X.T fn.results.toList e=some (rs,e')∧e'.fin=fin
theorem Fn.intro {f : Nat} {fn : Func} {body : Code} {as rs : List (Ag V)} {fin : List (Nat × V)} (hf : X.P.funcs[f]? = some fn) (hb : fn.body = some body) (hn : (fn.name == "runtime.NumGoroutine") = false) (hN : as.length ≤ fn.ntmps)
  (h:wpV X body (RetV X fn rs fin) (entry as fn.ntmps)):Fn X f as rs fin:=by
 refine ⟨⟨fn,hf,by rw [hb]; rfl,hn⟩,fun w D S us fl ha hr hj hD hg=>?_⟩
 have hlen:∀ (as:List (Ag V)) (us fl:List Value),ArgsV as us fl→us.length=as.length∧fl.length=(qD as).length:=by
  intro as
  induction as with
  | nil=>rintro us fl ⟨rfl,rfl⟩; exact ⟨rfl,rfl⟩
  | cons g as ih =>
   intro us fl hq
   cases g with
   | one x =>
    obtain ⟨u,us',fl',rfl,rfl,h2⟩:=hq
    obtain ⟨h3,h4⟩:=ih us' fl' h2
    exact ⟨by simp [h3],by simp [qD,h4]⟩
   | agg xs =>
    obtain ⟨vs,us',fl',rfl,h1,rfl,h2⟩:=hq
    obtain ⟨h3,h4⟩:=ih us' fl' h2
    exact ⟨by simp [h3],by simp [qD,h4,h1]⟩
 obtain ⟨l1,l2⟩:=hlen as us fl ha
 have hrd:∀ i,0≤i→i < 0+(qD as).length→fl[i]? = some (fl.getD i undef):=fun i _ hi=>by
  have:i < fl.length:=by omega
  rw [List.getD_eq_getElem?_getD,List.getElem?_eq_getElem this]
  rfl
 have hget:∀ j u,fl[j]? = some u→fl.getD (0+j) undef=u:=fun j u hj=>by rw [Nat.zero_add,List.getD_eq_getElem?_getD,hj]; rfl
 let k:Ctx X.G:={w0:=w,S0:=S,D0:=D,h0:=fun i=>fl.getD i undef}
 have hst:StD k (entry as fn.ntmps) {tmps:=us.toArray++Array.replicate (fn.ntmps - us.toArray.size) undef,defers:=[]} w D (fun i=>fl.getD i undef) S:={
  ob:=ent_ob (qD as) _ 0 S hr hrd
  sl:=fun t s ht=>by
   obtain ⟨_,u,g1,g2⟩:=ent_sl (w:=w) (D:=D) (hs:=fun i=>fl.getD i undef) (nx:=(qD as).length) (ob:=entOs (qD as) 0) as 0 0 S us fl _ ha hr hrd hget (by omega) t s ht
   have hu:(us.toArray++Array.replicate (fn.ntmps - us.toArray.size) undef).getD t undef=u:=by
    rw [Nat.sub_zero] at g1
    have hl:=(List.getElem?_eq_some_iff.1 g1).1
    rw [Array.getD_eq_getD_getElem?,Array.getElem?_append_left (by simpa using hl)]
    simp [g1]
   show SlRep w D _ _ _ s _
   rw [hu]
   exact g2
  sz:=by simp [entry]; omega
  df:=rfl
  dj:=hj
  Dl:=hD
  id:=fun i v q=>by have:=lk_entOs (qD as) 0 i v q; show i < (qD as).length; omega
  npx:=Nat.le_refl _
  hp:=fun i _=>rfl
  fr:=Frm.refl w S
  Ss:=fun b o q=>.inl q
  D0:=qA D
  gl:=hg
  Ds:=fun b o q=>.inl q}
 refine calls_of_wp hf hb (Code.wp_mono (fun x a' w' hq=>?_) (h k _ w ⟨D,_,S,hst⟩))
 obtain ⟨e',⟨hx,e1,hres,hfin⟩,D',hs',S',hd⟩:=hq
 obtain ⟨us',fl',T1,T',g1,g2,g3,g3l,g4,g5,g6,g7,g8,g9⟩:=StD.res fn.results.toList hd hres
 obtain ⟨S2,f1,f2⟩:=ObRep.filter (p:=fun q=>decide (q.1 < e1.np)) e1.ob T' g4.ob
 have f3:ObRep w' D' (fun i=>fl.getD i undef) e1.fin S2:=by
  refine ObRep.hs_eq _ _ f1 (fun i v q=>?_)
  have:=(List.mem_filter.1 q).2
  exact (g4.hp i (by simpa using this)).symm
 rw [hfin] at f3
 have hrun:∃ u,(results fn a'.tmps).run X.P w'=.ok u w'∧ResV rs u fl':=by
  have hm:(results fn a'.tmps)=(do
    let vs ← fn.results.mapM (resM a'.tmps)
    pure (if h:vs.size=1 then vs[0] else .tuple vs)):=by
   unfold results
   congr 1
  have hmm:(fn.results.mapM (resM a'.tmps)).run X.P w'=.ok us'.toArray w':=by
   rw [Array.mapM_eq_mapM_toList]
   simp [g1]
  rw [hm]
  simp only [Sem.run_bind,hmm,Result.andThen_ok,Sem.run_pure]
  refine ⟨_,rfl,?_⟩
  have h9:rs.length=us'.length:=g9.trans g3l.symm
  unfold ResV
  split
  ·rename_i r
   cases us' with
   | nil=>simp at h9
   | cons u us' =>
    have:us'=[]:=List.length_eq_zero_iff.1 (by simp only [List.length_cons,List.length_nil] at h9; omega)
    subst this
    simpa using g2
  ·rename_i hne
   refine ⟨us',?_,g2⟩
   rw [dif_neg]
   intro hq
   have hq':us'.length=1:=by simpa using hq
   cases rs with
   | nil=>simp only [List.length_nil] at h9; omega
   | cons r rs' =>
    have:rs'=[]:=List.length_eq_zero_iff.1 (by simp only [List.length_cons,List.length_nil] at h9; omega)
    subst this
    exact hne r rfl
 obtain ⟨u,hu1,hu2⟩:=hrun
 have out:bodyPost X.P fn (fun e w'=>∃ u fr D' S1 S2,e=.returned u∧ResV rs u fr∧RepRow w' D' (fun k=>fr[k]?) (qD rs) 0 S1∧ObRep w' D' (fun i=>fl.getD i undef) fin S2∧TV.dj S1 S2∧TV.dj (cup S1 S2) D' ∧
   Frm w w' S∧(∀ b o,cup S1 S2 b o→S b o∨w.heap.size≤b)∧sub D D'∧(∀ b o,D' b o→D b o∨S b o∨w.heap.size≤b)∧(∀ b o,D' b o→b < w'.heap.size)) .ret a' w':=
  ⟨hd.df,u,hu1,u,fl',D',T1,S2,rfl,hu2,g3,f3,dj_sub_r g5 f2,cup_dj (dj_sub hd.dj g6) (dj_sub hd.dj (qZ f2 g7)),hd.fr,fun b o q=>hd.Ss b o (q.elim (g6 b o) (fun q=>g7 b o (f2 b o q))),hd.D0,hd.Ds,hd.Dl⟩
 rcases hx with rfl | rfl
 ·exact out
 ·exact out
end
end Go.TV
namespace Go.TV
def Env.carve (e:Env):C→Option (V×Env)
 | .v x=>some (x,e)
 | .ref i p=>(lk i e.ob).bind fun v=>(v.get p).bind fun x=>if x.alive=true then some (x,{e with ob:=setO i (v.set p .dead) e.ob}) else none
 | _=>none
def ownLoc (w:World) (hs:Nat→Value):C→Value→Prop
 | .ref i p,u=>loc w (hs i) p=some u
 | _,_=>True
def Env.graft (e:Env) (k:C) (v:V):Option Env:=
 match k with
 | .ref i p=>(lk i e.ob).bind fun v0=>match v0.get p with
  | some .dead=>some {e with ob:=setO i (v0.set p v) e.ob,sl:=slMap (C.killN i) e.sl}
  | _=>none
 | _=>none
section
variable {gG:GG} {c:Ctx gG} {e e':Env} {a:Act} {w:World} {D:CS} {hs:Nat→Value} {S:CS} {X:Cfg} {o:Oper}
theorem StD.carve (h:StD c e a w D hs S) {k:C} {x:V} {u:Value} (hk:e.carve k=some (x,e')) (hu:CRep w D hs e.nx e.ob k u) :
  ∃ S1 S',Rep w D x u S1∧StD c e' a w D hs S'∧TV.dj S1 S'∧sub S1 S∧sub S' S∧e'.nx=e.nx∧e'.np=e.np∧e'.N=e.N∧ownLoc w hs k u ∧
   (∀ k' u',CRep w D hs e.nx e.ob k' u'→CRep w D hs e'.nx e'.ob k' u'):=by
 have hD:=qM w D
 cases k with
 | v y =>
  injection hk with hk
  injection hk with h1 h2
  subst h1
  subst h2
  exact ⟨emp,S,hu,h,emp_dj S,fun _ _ q=>q.elim,qA S,rfl,rfl,rfl,trivial,fun _ _ q=>q⟩
 | ref i p =>
  obtain ⟨hi,hp⟩:=hu
  simp only [Env.carve] at hk
  obtain ⟨v,h1,h2⟩:=zbi hk
  obtain ⟨y,h3,h2⟩:=zbi h2
  split at h2
  case isFalse=>cases h2
  injection h2 with h2
  injection h2 with h2 h4
  subst h2
  subst h4
  obtain ⟨u0,g1,_,g2⟩:=hp v y h1 h3
  subst g2
  obtain ⟨S1,G,e1,rfl,e3,e4,e5⟩:=h.ob.focus e.ob S i v h1
  obtain ⟨u1,Sx,G2,f1,f2,rfl,f4,f5⟩:=e1.focus p v _ _ y h3
  rw [g1] at f1
  injection f1 with f1
  subst f1
  obtain ⟨d1,_⟩:=f5 w D .dead emp (qA D) hD (qM w _) rfl (emp_dj _)
  rw [emp_cup] at d1
  have d2:=e5 w D hs (v.set p .dead) G2 (qA D) hD (qM w _) (fun _ _ _ _=>rfl) d1 (r_dj e3)
  have kk:∀ c',KC w w hs hs e.nx e.ob (setO i (v.set p .dead) e.ob) c':=fun c'=>by
   have:∀ k q,Kp w w hs hs e.ob (setO i (v.set p .dead) e.ob) k q:=fun k q v' x' r1 r2=>by
    by_cases hki:k=i
    ·subst hki
     rw [lk_setO_eq _ e.ob h1] at r1
     injection r1 with r1
     subst r1
     obtain ⟨x,hx⟩:=V.set_dead_get p q v y x' h3 r2
     exact ⟨v,x,h1,hx,fun _ q _=>q⟩
    ·rw [lk_setO_ne hki] at r1
     exact ⟨v',x',r1,r2,fun _ q _=>q⟩
   cases c' <;> first | trivial | exact fun _=>this _ _
  refine ⟨Sx,cup G2 G,f2,?_,dj_cup f4 (l_dj e3),fun b o q=>.inl (.inl q),fun b o q=>q.elim (fun q=>.inl (.inr q)) .inr,rfl,rfl,rfl,g1,fun k' u' q=>q.kc (qA D) hD (Nat.le_refl _) (kk k')⟩
  exact {
   ob:=d2
   sl:=fun t s ht=>(h.sl t s ht).kc (qA D) hD (Nat.le_refl _) s _ (fun c' _=>kk c')
   sz:=h.sz
   df:=h.df
   dj:=fun b o q r=>h.dj b o (q.elim (fun q=>.inl (.inr q)) .inr) r
   Dl:=h.Dl
   id:=fun k x q=>by
    by_cases hki:k=i
    ·subst hki
     exact h.id _ v h1
    ·rw [lk_setO_ne hki] at q
     exact h.id k x q
   npx:=h.npx
   hp:=h.hp
   fr:=h.fr
   Ss:=fun b o q=>h.Ss b o (q.elim (fun q=>.inl (.inr q)) .inr)
   D0:=h.D0
   gl:=h.gl
   Ds:=h.Ds}
 | _=>cases hk
theorem StD.graft (h:StD c e a w D hs S) {k:C} {v:V} {u:Value} {S1:CS} (hk:e.graft k v=some e') (hl:ownLoc w hs k u) (hv:Rep w D v u S1) (hj:TV.dj S1 S) (hjD:TV.dj S1 D)
  (h0:∀ b o,S1 b o→c.S0 b o∨c.w0.heap.size≤b):StD c e' a w D hs (cup S1 S)∧e'.nx=e.nx∧e'.np=e.np∧e'.N=e.N:=by
 have hD:=qM w D
 cases k with
 | ref i p =>
  simp only [Env.graft] at hk
  obtain ⟨v0,h1,h2⟩:=zbi hk
  split at h2
  case h_2=>cases h2
  rename_i hdead
  injection h2 with h2
  subst h2
  obtain ⟨T1,G,e1,rfl,e3,e4,e5⟩:=h.ob.focus e.ob S i v0 h1
  obtain ⟨u1,Sx,G2,f1,f2,rfl,f4,f5⟩:=e1.focus p v0 _ _ _ hdead
  have hSx:Sx=emp:=f2
  subst hSx
  rw [show loc w (hs i) p=some u from hl] at f1
  injection f1 with f1
  subst f1
  rw [emp_cup] at e1 e3 hj ⊢
  obtain ⟨d1,_⟩:=f5 w D v S1 (qA D) hD (qM w _) hv (dj_l hj)
  have d2:=e5 w D hs (v0.set p v) (cup S1 G2) (qA D) hD (qM w _) (fun _ _ _ _=>rfl) d1 (cup_dj (dj_r hj) e3)
  rw [cup_assoc] at d2
  refine ⟨?_,rfl,rfl,rfl⟩
  exact {
   ob:=d2
   sl:=fun t s ht=>by
    obtain ⟨s0,q1,rfl⟩:=lk_slMap e.sl ht
    refine SlRep.mapf (fun k u' hk=>?_) (h.sl t s0 q1)
    have other:∀ k' q,k'≠i→Kp w w hs hs e.ob (setO i (v0.set p v) e.ob) k' q:=fun k' q hk' v' x' r1 r2=>by
     rw [lk_setO_ne hk'] at r1
     exact ⟨v',x',r1,r2,fun _ q _=>q⟩
    have self:Kp w w hs hs e.ob (setO i (v0.set p v) e.ob) i []:=fun v' x' _ _=>⟨v0,v0,h1,rfl,fun u hu _=>hu⟩
    have kc:∀ k',(KC w w hs hs e.nx e.ob (setO i (v0.set p v) e.ob) k')→CRep w D hs e.nx e.ob k' u'→CRep w D hs e.nx (setO i (v0.set p v) e.ob) k' u':=
     fun k' h1 h2=>h2.kc (qA D) hD (Nat.le_refl _) h1
    cases k with
    | v x=>exact kc _ trivial hk
    | ba row=>exact kc _ trivial hk
    | dead=>trivial
    | ref k' q =>
     cases q with
     | nil =>
      refine kc _ (fun _=>?_) hk
      by_cases q:k'=i
      ·subst q; exact self
      ·exact other k' [] q
     | cons s q =>
      simp only [C.killN]
      split
      ·trivial
      ·rename_i hne'
       exact kc _ (fun _=>other k' _ hne') hk
    | part k' q _ _ _ =>
     cases q with
     | nil =>
      refine kc _ (fun _=>?_) hk
      by_cases q:k'=i
      ·subst q; exact self
      ·exact other k' [] q
     | cons s q =>
      simp only [C.killN]
      split
      ·trivial
      ·rename_i hne'
       exact kc _ (fun _=>other k' _ hne') hk
    | addr k' q _ _ _ =>
     cases q with
     | nil =>
      refine kc _ (fun _=>?_) hk
      by_cases q:k'=i
      ·subst q; exact self
      ·exact other k' [] q
     | cons s q =>
      simp only [C.killN]
      split
      ·trivial
      ·rename_i hne'
       exact kc _ (fun _=>other k' _ hne') hk
   sz:=h.sz
   df:=h.df
   dj:=cup_dj hjD (by have:=h.dj; rwa [emp_cup] at this)
   Dl:=h.Dl
   id:=fun k x q=>by
    by_cases hki:k=i
    ·subst hki
     exact h.id _ v0 h1
    ·rw [lk_setO_ne hki] at q
     exact h.id k x q
   npx:=h.npx
   hp:=h.hp
   fr:=h.fr
   Ss:=fun b o q=>q.elim (h0 b o) (fun q=>h.Ss b o (by rw [emp_cup]; exact q))
   D0:=h.D0
   gl:=h.gl
   Ds:=h.Ds}
 | _=>cases hk
theorem lk_append {α:Type} {i:Nat}:∀ (A B:List (Nat×α)),lk i (A++B)=(lk i A).or (lk i B)
 | [],B=>by simp [lk]
 | (k,v) :: A,B=>by
  simp only [List.cons_append,lk]
  split
  ·rfl
  ·exact lk_append A B
theorem ObRep.join:∀ (A B:List (Nat×V)) (S1 S2:CS),ObRep w D hs A S1→ObRep w D hs B S2→TV.dj S1 S2→(∀ i v x,lk i A=some v→lk i B=some x→False)→ObRep w D hs (A++B) (cup S1 S2)
 | [],B,S1,S2,h1,h2,_,_=>by rw [show S1=emp from h1,emp_cup]; exact h2
 | (i,v) :: A,B,S1,S2,h1,h2,hj,hd=>by
  obtain ⟨T1,T2,g0,g1,g2,g3,rfl⟩:=h1
  refine ⟨T1,cup T2 S2,?_,g1,ObRep.join A B T2 S2 g2 h2 (r_dj hj) (fun k y z hy hz=>hd k y z ?_ hz),dj_cup g3 (l_dj hj),cup_assoc _ _ _⟩
  ·have hB:lk i B=none:=by
    cases q:lk i B with
    | none=>rfl
    | some z=>exact (hd i v z (by simp [lk]) q).elim
   show lk i (A++B)=none
   rw [lk_append,g0,hB]
   rfl
  ·simp only [lk]
   split
   ·rename_i e
    subst e
    rw [g0] at hy
    cases hy
   ·exact hy
theorem StD.objs (h:StD c e a w D hs S) {xs:List V} {fr:List Value} {S1:CS} (hx:RepRow w D (fun k=>fr[k]?) xs 0 S1) (hl:fr.length=xs.length) (hj:TV.dj S1 S) (hjD:TV.dj S1 D)
  (h0:∀ b o,S1 b o→c.S0 b o∨c.w0.heap.size≤b) :
  StD c {e with nx:=e.nx+xs.length,ob:=entOs xs e.nx++e.ob} a w D (fun i=>if e.nx≤i then fr.getD (i - e.nx) undef else hs i) (cup S1 S):=by
 have hD:=qM w D
 have hlt:∀ i v,lk i e.ob=some v→¬e.nx≤i:=fun i v q=>by have:=h.id i v q; omega
 have hx':RepRow w D (fun k=>fr[k - e.nx]?) xs e.nx S1:=RepRow.shift xs _ _ 0 e.nx S1 hx (fun q _=>by
  show fr[e.nx+q - e.nx]? = fr[0+q]?
  rw [Nat.add_sub_cancel_left,Nat.zero_add])
 have hob:=ent_ob (hs:=fun i=>if e.nx≤i then fr.getD (i - e.nx) undef else hs i) xs _ e.nx S1 hx' (fun i h1 h2=>by
  have:i - e.nx < fr.length:=by omega
  simp only [h1,if_true]
  rw [List.getD_eq_getElem?_getD,List.getElem?_eq_getElem this]
  rfl)
 have hold:ObRep w D (fun i=>if e.nx≤i then fr.getD (i - e.nx) undef else hs i) e.ob S:=ObRep.keep (qA D) hD e.ob S h.ob (qM w S) (fun i x q=>by simp [hlt i x q])
 have hlkne:∀ i,i < e.nx→lk i (entOs xs e.nx++e.ob)=lk i e.ob:=fun i hi=>by
  rw [lk_append]
  cases q:lk i (entOs xs e.nx) with
  | none=>rfl
  | some v=>have:=lk_entOs xs e.nx i v q; omega
 exact {
  ob:=ObRep.join _ _ S1 S hob hold hj (fun i v x h1 h2=>by have:=lk_entOs xs e.nx i v h1; have:=h.id i x h2; omega)
  sl:=fun t s ht=>by
   have q:=h.sl t s ht
   refine SlRep.kc (qA D) hD (by show e.nx≤e.nx+xs.length; omega) s _ q (fun c _=>?_)
   cases c <;> first
    | trivial
    | exact fun hi=>Kp.same h.ob _ (hlkne _ hi) (by show (if e.nx≤_ then fr.getD _ undef else hs _)=_; rw [if_neg (by omega)]) hD (fun _ _ _ _ _ _ _=>qM _ _)
  sz:=h.sz
  df:=h.df
  dj:=cup_dj hjD h.dj
  Dl:=h.Dl
  id:=fun i x q=>by
   rw [lk_append] at q
   show i < e.nx+xs.length
   cases z:lk i (entOs xs e.nx) with
   | some v=>have:=lk_entOs xs e.nx i v z; omega
   | none=>rw [z] at q; have:=h.id i x q; omega
  npx:=by have:=h.npx; show e.np≤e.nx+xs.length; omega
  hp:=fun i hi=>by
   have:=h.npx
   have hi':i < e.np:=hi
   simp only [show ¬e.nx≤i by omega,if_false]
   exact h.hp i hi
  fr:=h.fr
  Ss:=fun b o q=>q.elim (h0 b o) (h.Ss b o)
  D0:=h.D0
  gl:=h.gl
  Ds:=h.Ds}
def entA:List (Ag V)→Nat→List (Ag C)
 | [],_=>[]
 | .one x :: as,k=>.one (entC x k) :: entA as (k+1)
 | .agg xs :: as,k=>.agg (entCs xs k) :: entA as (k+xs.length)
def retS (rs:List (Ag V)) (nx:Nat):Sl:=
 match entA rs nx with
 | [g]=>.pl g
 | gs=>.tup gs
theorem ent_as {w:World} {D:CS} {hs:Nat→Value} {nx:Nat} {ob:List (Nat×V)}:∀ (as:List (Ag V)) (k:Nat) (S:CS) (us fl:List Value) (rd:Nat→Option Value),ArgsV as us fl→RepRow w D rd (qD as) k S →
  (∀ i,k≤i→i < k+(qD as).length→rd i=some (hs i))→(∀ j u,fl[j]? = some u→hs (k+j)=u)→k+(qD as).length≤nx→AgsRep w D hs nx ob (entA as k) us
 | [],_,_,us,fl,_,h,_,_,_,_=>h.1
 | .one x :: as,k,S,us,fl,rd,ha,h,hr,hu,hn=>by
  obtain ⟨u,us',fl',rfl,rfl,ha'⟩:=ha
  simp only [qD] at h hr hn
  have h0:RepRow w D rd ([x]++qD as) k S:=h
  obtain ⟨T1,T2,g1,g2,_⟩:=RepRow.split [x] (qD as) k S h0
  have:=ent_cs (nx:=nx) (ob:=ob) (hs:=hs) [x] rd k T1 [u] g1 rfl (fun i a b=>hr i a (by simp at b ⊢; omega)) (fun j y hj=>hu j y (by
   cases j with
   | zero=>simpa using hj
   | succ j=>simp at hj)) (by simp at hn ⊢; omega)
  obtain ⟨u',r,e1,e2,_⟩:=this
  injection e1 with e1 _
  subst e1
  exact ⟨u,us',rfl,e2,ent_as as (k+1) T2 us' fl' rd ha' g2 (fun i a b=>hr i (by omega) (by simp; omega)) (fun j y hj=>by
   have:=hu (j+1) y (by simpa using hj)
   rwa [show k+(j+1)=k+1+j by omega] at this) (by simp at hn; omega)⟩
 | .agg xs :: as,k,S,us,fl,rd,ha,h,hr,hu,hn=>by
  obtain ⟨vs,us',fl',rfl,hl,rfl,ha'⟩:=ha
  simp only [qD] at h hr hn
  obtain ⟨T1,T2,g1,g2,_⟩:=RepRow.split xs (qD as) k S h
  simp only [List.length_append] at hr hn
  have:=ent_cs (nx:=nx) (ob:=ob) (hs:=hs) xs rd k T1 vs g1 hl (fun i a b=>hr i a (by omega)) (fun j y hj=>hu j y (by
   have:=(List.getElem?_eq_some_iff.1 hj).1
   rw [List.getElem?_append_left this]
   exact hj)) (by omega)
  exact ⟨_,us',rfl,⟨vs,rfl,this⟩,ent_as as (k+xs.length) T2 us' fl' rd ha' g2 (fun i a b=>hr i (by omega) (by omega)) (fun j y hj=>by
   have:=hu (vs.length+j) y (by rw [List.getElem?_append_right (by omega),Nat.add_sub_cancel_left]; exact hj)
   rwa [hl,← Nat.add_assoc] at this) (by omega)⟩
end
end Go.TV
namespace Go.TV
def Env.args (e:Env):List Operand→Option (List (Ag C))
 | []=>some []
 | x :: xs=>match e.val x with
  | some (.pl g)=>(e.args xs).map fun gs=>g :: gs
  | _=>none
def flatC:List (Ag C)→List C
 | []=>[]
 | .one k :: gs=>k :: flatC gs
 | .agg ks :: gs=>ks++flatC gs
def Env.callee (e:Env):Operand→Option (Nat×List V)
 | .func f=>some (f,[])
 | .tmp t=>match lk t e.sl with
  | some (.pl (.one (.v (.fn f caps))))=>some (f,caps)
  | _=>none
 | _=>none
def Env.own1 (md:List Nat):Env→Nat→List C→Option (List (Option V)×Env)
 | e,_,[]=>some ([],e)
 | e,k,c :: cs=>if md.contains k=true then (e.carve c).bind fun q=>(Env.own1 md q.2 (k+1) cs).map fun r=>(some q.1 :: r.1,r.2) else (Env.own1 md e (k+1) cs).map fun r=>(none :: r.1,r.2)
def Env.lend (e:Env):C→Option V
 | .v x=>some x
 | .ba row=>some (.box false row)
 | .ref i p=>(e.node i p).bind fun x=>if x.alive=true then some x.bor else none
 | .part i p n lo hi=>(e.rows (.part i p n lo hi)).map fun q=>.list false q.1 (qF q.2)
 | .addr i p n r j=>(e.node i p).bind fun x=>(x.rowAt n r).bind fun row=>if j≤row.length then some (.box false (borRow (row.drop j))) else none
 | .dead=>none
def Env.fill (e:Env):List (Option V)→List C→Option (List V)
 | [],[]=>some []
 | some x :: os,_ :: cs=>(e.fill os cs).map fun xs=>x :: xs
 | none :: os,c :: cs=>(e.lend c).bind fun x=>(e.fill os cs).map fun xs=>x :: xs
 | _,_=>none
def shape:List (Ag C)→List V→List (Ag V)
 | [],_=>[]
 | .one _ :: gs,xs=>.one (xs.headD .dead) :: shape gs xs.tail
 | .agg ks :: gs,xs=>.agg (xs.take ks.length) :: shape gs (xs.drop ks.length)
def Env.deadAt (e:Env):C→Bool
 | .ref i p=>match e.node i p with | some .dead=>true | _=>false
 | _=>true
def Env.deads (e:Env):List (Option V)→List C→Bool
 | some _ :: os,c :: cs=>e.deadAt c && e.deads os cs
 | none :: os,_ :: cs=>e.deads os cs
 | _,_=>true
def evCall (md:Nat→List Nat) (cf:Operand) (as:List Operand) (e:Env):Option (Nat×List (Ag V)×List C×Env):=
 (e.callee cf).bind fun q=>(e.args as).bind fun gs=>(Env.own1 (md q.1) e 0 (flatC (gs++q.2.map fun x=>.one (.v x)))).bind fun z =>
  if z.2.deads z.1 (flatC (gs++q.2.map fun x=>.one (.v x)))=true then (z.2.fill z.1 (flatC (gs++q.2.map fun x=>.one (.v x)))).map fun xs=>(q.1,shape (gs++q.2.map fun x=>.one (.v x)) xs,flatC (gs++q.2.map fun x=>.one (.v x)),z.2) else none
def Env.back (cells:List C):List (Nat×V)→Env→Option Env
 | [],e=>some e
 | (i,v) :: fin,e=>(cells[i]?).bind fun c=>(e.graft c v).bind fun e'=>Env.back cells fin e'
def evRet (o:Oper) (rs:List (Ag V)) (fin:List (Nat×V)) (cells:List C) (e:Env):Option Env:=
 (({e with nx:=e.nx+(qD rs).length,ob:=entOs (qD rs) e.nx++e.ob}:Env).putO o.dst (retS rs e.nx)).bind fun e2=>e2.back cells fin
section
variable {gG:GG} {c:Ctx gG} {e e':Env} {a:Act} {w:World} {D:CS} {hs:Nat→Value} {S:CS} {X:Cfg} {o:Oper}
theorem StD.args (h:StD c e a w D hs S):∀ (xs:List Operand) (gs:List (Ag C)),e.args xs=some gs→∃ fl,CsRep w D hs e.nx e.ob (flatC gs) fl∧(ArgsV gs (xs.map a.eval) fl)
 | [],gs,hx=>by
  injection hx with hx
  subst hx
  exact ⟨[],rfl,rfl,rfl⟩
 | x :: xs,gs,hx=>by
  simp only [Env.args] at hx
  split at hx
  case h_2=>cases hx
  rename_i g hg
  obtain ⟨gs',h1,rfl⟩:=Option.map_eq_some_iff.1 hx
  obtain ⟨fl,h2,h3⟩:=StD.args h xs gs' h1
  have hv:=h.val hg
  cases g with
  | one k=>exact ⟨_ :: fl,⟨_,fl,rfl,hv,h2⟩,_,_,fl,rfl,rfl,h3⟩
  | agg ks =>
   obtain ⟨us,hu,hc⟩:=hv
   exact ⟨us++fl,CsRep.append _ _ _ _ hc h2,us,_,fl,by rw [List.map_cons,hu],hc.length,rfl,h3⟩
theorem argsV_append {α:Type}:∀ (A B:List (Ag α)) (u1 u2 f1 f2:List Value),ArgsV A u1 f1→ArgsV B u2 f2→ArgsV (A++B) (u1++u2) (f1++f2)
 | [],B,u1,u2,f1,f2,h1,h2=>by obtain ⟨rfl,rfl⟩:=h1; exact h2
 | .one x :: A,B,u1,u2,f1,f2,h1,h2=>by
  obtain ⟨u,us,fl,rfl,rfl,h3⟩:=h1
  exact ⟨u,us++u2,fl++f2,rfl,rfl,argsV_append A B us u2 fl f2 h3 h2⟩
 | .agg xs :: A,B,u1,u2,f1,f2,h1,h2=>by
  obtain ⟨vs,us,fl,rfl,hl,rfl,h3⟩:=h1
  exact ⟨vs,us++u2,fl++f2,rfl,hl,by simp,argsV_append A B us u2 fl f2 h3 h2⟩
theorem flatC_append:∀ (A B:List (Ag C)),flatC (A++B)=flatC A++flatC B
 | [],_=>rfl
 | .one k :: A,B=>by simp [flatC,flatC_append A B]
 | .agg ks :: A,B=>by simp [flatC,flatC_append A B]
theorem shape_ok:∀ (gs:List (Ag C)) (us fl:List Value) (xs:List V),ArgsV gs us fl→xs.length=(flatC gs).length→ArgsV (shape gs xs) us fl∧qD (shape gs xs)=xs
 | [],us,fl,xs,h,hl=>by
  have:xs=[]:=List.length_eq_zero_iff.1 hl
  subst this
  exact ⟨h,rfl⟩
 | .one k :: gs,us,fl,xs,h,hl=>by
  obtain ⟨u,us',fl',rfl,rfl,h3⟩:=h
  cases xs with
  | nil=>simp [flatC] at hl
  | cons x xs =>
   obtain ⟨g1,g2⟩:=shape_ok gs us' fl' xs h3 (by simpa [flatC] using hl)
   exact ⟨⟨u,us',fl',rfl,rfl,g1⟩,by simp [shape,qD,g2]⟩
 | .agg ks :: gs,us,fl,xs,h,hl=>by
  obtain ⟨vs,us',fl',rfl,h1,rfl,h3⟩:=h
  simp only [flatC,List.length_append] at hl
  obtain ⟨g1,g2⟩:=shape_ok gs us' fl' (xs.drop ks.length) h3 (by simp; omega)
  exact ⟨⟨vs,us',fl',rfl,by simp; omega,rfl,g1⟩,by simp [shape,qD,g2]⟩
theorem StD.lend (h:StD c e a w D hs S) {k:C} {x:V} {u:Value} (hk:e.lend k=some x) (hu:CRep w D hs e.nx e.ob k u):Rep w (cup D S) x u emp:=by
 cases k with
 | v y =>
  injection hk with hk
  subst hk
  exact Rep.mono (sub_l _ _) hu
 | ba row =>
  injection hk with hk
  subst hk
  obtain ⟨b,o,h1,h2,h3⟩:=hu
  exact Rep.mono (sub_l _ _) ⟨b,o,emp,h1,h2,rfl,rfl,h3⟩
 | ref i p =>
  obtain ⟨y,h1,h2⟩:=zbi hk
  split at h2
  case isFalse=>cases h2
  rename_i ha
  injection h2 with h2
  subst h2
  obtain ⟨v,k1,k2⟩:=h.lnode h1
  obtain ⟨u1,g1,_,rfl⟩:=hu.2 v y k1 k2
  obtain ⟨u2,Sx,k3,k4,k5⟩:=h.node k1 k2
  rw [g1] at k3
  injection k3 with k3
  subst k3
  exact Rep.lent y _ Sx k4 (sub_l _ _) (qZ k5 (sub_r _ _)) ha
 | part i p n lo hi =>
  obtain ⟨⟨m,rows⟩,h1,rfl⟩:=Option.map_eq_some_iff.1 hk
  obtain ⟨A,cap,g1,g2⟩:=h.rows h1 hu
  obtain ⟨_,hp⟩:=hu
  -- the cut's room
  have hcap:rows.length≤cap:=by
   simp only [Env.rows] at h1
   split at h1
   case h_2=>cases h1
   rename_i n' rs hn
   split at h1
   case isFalse=>cases h1
   injection h1 with h1
   injection h1 with q1 q2
   obtain ⟨v,k1,k2⟩:=h.lnode hn
   obtain ⟨u1,f1,_,⟨A',len,cap0,A2,cap',p1,p2,p3,p4,p5,p6,p7⟩⟩:=hp v _ k1 k2
   rw [g1] at p6
   injection p6 with _ p8 p9
   omega
  have hl:(qF rows).length=rows.length:=by simp [borRows_map]
  rcases g2 with ⟨rfl | ⟨_,q⟩,rfl⟩ | ⟨b,o',S1,rfl,g3,g4,g5⟩
  case inl.inr=>cases q
  ·-- an empty cut of nil
   simp only [Env.rows] at h1
   split at h1
   case h_2=>cases h1
   rename_i n' rs hn
   split at h1
   case isFalse=>cases h1
   injection h1 with h1
   injection h1 with q1 q2
   obtain ⟨v,k1,k2⟩:=h.lnode hn
   obtain ⟨u1,f1,_,⟨A',len,cap0,A2,cap',p1,p2,p3,p4,p5,p6,p7⟩⟩:=hp v _ k1 k2
   rw [g1] at p6
   injection p6 with p6 p8 p9
   rcases p7 with ⟨_,_,p7⟩ | ⟨_,_,_,_,p7,_⟩
   ·refine .inl ⟨rfl,.inl ?_,rfl⟩
    rw [g1,p9,p7]
    rfl
   ·rw [← p6] at p7
    cases p7
  ·refine .inr ⟨b,o',cap,emp,by rw [hl]; exact g1,by rw [hl]; exact hcap,RepRows.lent m b o' rows 0 S1 g3 (sub_l _ _) (qZ g4 (sub_r _ _)),rfl,rfl,by rw [hl]; exact g5⟩
 | addr i p n r j =>
  obtain ⟨y,h1,h2⟩:=zbi hk
  obtain ⟨row,h3,h2⟩:=zbi h2
  split at h2
  case isFalse=>cases h2
  rename_i hj
  injection h2 with h2
  subst h2
  obtain ⟨v,k1,k2⟩:=h.lnode h1
  obtain ⟨u1,g1,_,b,o',g2,g3⟩:=hu.2 v y k1 k2
  obtain ⟨u2,Sx,k3,k4,k5⟩:=h.node k1 k2
  rw [g1] at k3
  injection k3 with k3
  subst k3
  obtain ⟨b2,o2,Sr,G,f1,f2,rfl,_⟩:=k4.row h3
  rw [g2] at f1
  injection f1 with f1
  have eb:b=b2:=by injection f1
  have eo:o'=o2:=by injection f1
  subst eb
  subst eo
  have hS:sub Sr (cup D S):=fun x y q=>.inr (k5 x y (.inl q))
  have hb:=Rep.lent _ _ Sr f2 (sub_l D S) hS rfl
  obtain ⟨b3,o3,S3,q1,q2,rfl,_,q3⟩:=hb
  have hq:ad b (o'+r * n)=ad b3 o3:=by injection q1 with q1; injection q1
  have eb:b=b3:=by injection hq
  have eo:o'+r * n=o3:=by injection hq
  subst eb
  subst eo
  have hl:(borRow row).length=row.length:=by simp [borRow_map]
  have hd:borRow (row.drop j)=(borRow row).drop j:=by simp [borRow_map]
  rw [hd]
  exact ⟨b,o'+r * n+j,emp,g3,RepRow.drop q2 (by omega),rfl,rfl,qZ (rng_drop (by omega)) q3⟩
 | dead=>cases hk
end
end Go.TV
namespace Go.TV
def RepO (w:World) (D:CS):List (Option V)→List Value→CS→Prop
 | [],us,S=>us=[]∧S=emp
 | some x :: os,us,S=>∃ u r S1 S2,us=u :: r∧Rep w D x u S1∧RepO w D os r S2∧dj S1 S2∧S=cup S1 S2
 | none :: os,us,S=>∃ u r,us=u :: r∧RepO w D os r S
section
variable {gG:GG} {c:Ctx gG} {e e':Env} {a:Act} {w:World} {D:CS} {hs:Nat→Value} {S:CS} {X:Cfg} {o:Oper}
theorem StD.own1 {md:List Nat}:∀ (cs:List C) (k:Nat) {e e':Env} {S:CS} (h:StD c e a w D hs S) {os:List (Option V)} {us:List Value},Env.own1 md e k cs=some (os,e')→CsRep w D hs e.nx e.ob cs us →
  ∃ S1 S',RepO w D os us S1∧StD c e' a w D hs S'∧TV.dj S1 S'∧sub S1 S∧sub S' S∧e'.nx=e.nx∧e'.np=e.np∧e'.N=e.N∧(∀ k' u',CRep w D hs e.nx e.ob k' u'→CRep w D hs e'.nx e'.ob k' u') ∧
   os.length=cs.length∧(∀ (j:Nat) (q:C) (u:Value) (x:V),cs[j]? = some q→us[j]? = some u→os[j]? = some (some x)→ownLoc w hs q u)∧(∀ j,md.contains (k+j)=true→j < cs.length→∃ x,os[j]? = some (some x))
 | [],k,e,e',S,h,os,us,hk,hu=>by
  injection hk with hk
  injection hk with h1 h2
  subst h1
  subst h2
  exact ⟨emp,S,⟨hu,rfl⟩,h,emp_dj S,fun _ _ q=>q.elim,qA S,rfl,rfl,rfl,fun _ _ q=>q,rfl,fun j q u x hq=>by simp at hq,fun j _ hj=>by simp at hj⟩
 | q :: cs,k,e,e',S,h,os,us,hk,hu=>by
  obtain ⟨u,r,rfl,hu1,hu2⟩:=hu
  simp only [Env.own1] at hk
  split at hk
  ·rename_i hmd
   obtain ⟨⟨x,e1⟩,h1,hk⟩:=zbi hk
   obtain ⟨⟨os',e2⟩,h2,h3⟩:=Option.map_eq_some_iff.1 hk
   simp only [Prod.mk.injEq] at h3
   obtain ⟨h3,h4⟩:=h3
   subst h3
   subst h4
   obtain ⟨S1,S',f1,f2,f3,f4,f5,f6,f7,f8,f9,f10⟩:=h.carve h1 hu1
   obtain ⟨T1,T',g1,g2,g3,g4,g5,g6,g7,g8,g9,g10,g11,g12⟩:=StD.own1 cs (k+1) f2 h2 (CsRep.imp f10 cs r hu2)
   refine ⟨cup S1 T1,T',⟨u,r,S1,T1,rfl,f1,g1,dj_sub_r f3 g4,rfl⟩,g2,cup_dj (dj_sub_r f3 g5) g3,fun b o z=>z.elim (f4 b o) (fun z=>f5 b o (g4 b o z)),qZ g5 f5,g6.trans f6,g7.trans f7,g8.trans f8,
    fun k' u' z=>g9 k' u' (f10 k' u' z),by simp [g10],fun j q' u' x' h1 h2 h3=>?_,fun j hm hj=>?_⟩
   case refine_2 =>
    cases j with
    | zero=>exact ⟨x,rfl⟩
    | succ j =>
     obtain ⟨y,hy⟩:=g12 j (by rw [show k+1+j=k+(j+1) by omega]; exact hm) (by simpa using hj)
     exact ⟨y,by simpa using hy⟩
   cases j with
   | zero =>
    simp at h1 h2
    subst h1
    subst h2
    exact f9
   | succ j=>exact g11 j q' u' x' (by simpa using h1) (by simpa using h2) (by simpa using h3)
  ·rename_i hmd
   obtain ⟨⟨os',e2⟩,h2,h3⟩:=Option.map_eq_some_iff.1 hk
   simp only [Prod.mk.injEq] at h3
   obtain ⟨h3,h4⟩:=h3
   subst h3
   subst h4
   obtain ⟨T1,T',g1,g2,g3,g4,g5,g6,g7,g8,g9,g10,g11,g12⟩:=StD.own1 cs (k+1) h h2 hu2
   refine ⟨T1,T',⟨u,r,rfl,g1⟩,g2,g3,g4,g5,g6,g7,g8,g9,by simp [g10],fun j q' u' x' h1 h2 h3=>?_,fun j hm hj=>?_⟩
   case refine_2 =>
    cases j with
    | zero=>rw [Nat.add_zero] at hm; exact absurd hm hmd
    | succ j =>
     obtain ⟨y,hy⟩:=g12 j (by rw [show k+1+j=k+(j+1) by omega]; exact hm) (by simpa using hj)
     exact ⟨y,by simpa using hy⟩
   cases j with
   | zero=>simp at h3
   | succ j=>exact g11 j q' u' x' (by simpa using h1) (by simpa using h2) (by simpa using h3)
theorem StD.fill (h:StD c e a w D hs S):∀ (os:List (Option V)) (cs:List C) (us:List Value) (xs:List V) (S1:CS) (rd:Nat→Option Value) (k:Nat),e.fill os cs=some xs→RepO w D os us S1→CsRep w D hs e.nx e.ob cs us →
  (∀ j u,us[j]? = some u→rd (k+j)=some u)→RepRow w (cup D S) rd xs k S1∧xs.length=cs.length
 | [],[],us,xs,S1,rd,k,hf,hO,hC,hr=>by
  injection hf with hf
  subst hf
  exact ⟨hO.2,rfl⟩
 | some x :: os,q :: cs,us,xs,S1,rd,k,hf,hO,hC,hr=>by
  obtain ⟨xs',h1,rfl⟩:=Option.map_eq_some_iff.1 hf
  obtain ⟨u,r,T1,T2,rfl,h2,h3,h4,rfl⟩:=hO
  obtain ⟨u',r',he,_,h5⟩:=hC
  injection he with he1 he2
  subst he1
  subst he2
  obtain ⟨g1,g2⟩:=StD.fill h os cs r xs' T2 rd (k+1) h1 h3 h5 (fun j z hj=>by
   have:=hr (j+1) z (by simpa using hj)
   rwa [show k+(j+1)=k+1+j by omega] at this)
  exact ⟨⟨u,T1,T2,by have:=hr 0 u rfl; simpa using this,Rep.mono (sub_l _ _) h2,g1,h4,rfl⟩,by simp [g2]⟩
 | none :: os,q :: cs,us,xs,S1,rd,k,hf,hO,hC,hr=>by
  simp only [Env.fill] at hf
  obtain ⟨x,h0,hf⟩:=zbi hf
  obtain ⟨xs',h1,rfl⟩:=Option.map_eq_some_iff.1 hf
  obtain ⟨u,r,rfl,h3⟩:=hO
  obtain ⟨u',r',he,h6,h5⟩:=hC
  injection he with he1 he2
  subst he1
  subst he2
  obtain ⟨g1,g2⟩:=StD.fill h os cs r xs' S1 rd (k+1) h1 h3 h5 (fun j z hj=>by
   have:=hr (j+1) z (by simpa using hj)
   rwa [show k+(j+1)=k+1+j by omega] at this)
  exact ⟨⟨u,emp,S1,by have:=hr 0 u rfl; simpa using this,h.lend h0 h6,g1,emp_dj _,(emp_cup _).symm⟩,by simp [g2]⟩
 | [],_ :: _,_,_,_,_,_,hf,_,_,_=>by cases hf
 | some _ :: _,[],_,_,_,_,_,hf,_,_,_=>by cases hf
 | none :: _,[],_,_,_,_,_,hf,_,_,_=>by cases hf
theorem StD.back {cells:List C} {fl:List Value} {D2:CS}:∀ (fin:List (Nat×V)) {e e':Env} {S T:CS} (h:StD c e a w D hs S),Env.back cells fin e=some e'→ObRep w D2 (fun i=>fl.getD i undef) fin T →
  (∀ q ∈ fin,q.2.noBor=true)→TV.dj T S→TV.dj T D→(∀ b o,T b o→c.S0 b o∨c.w0.heap.size≤b)→(∀ q ∈ fin,∀ k,cells[q.1]? = some k→ownLoc w hs k (fl.getD q.1 undef))→∃ S',StD c e' a w D hs S'
 | [],e,e',S,T,h,hb,_,_,_,_,_,_=>by
  injection hb with hb
  subst hb
  exact ⟨S,h⟩
 | (i,v) :: fin,e,e',S,T,h,hb,ho,hn,hj,hD,h0,hl=>by
  simp only [Env.back] at hb
  obtain ⟨k,h1,hb⟩:=zbi hb
  obtain ⟨e1,h2,hb⟩:=zbi hb
  obtain ⟨T1,T2,g0,g1,g2,g3,rfl⟩:=ho
  obtain ⟨f1,f2,f3,f4⟩:=h.graft (u:=fl.getD i undef) h2 (hl (i,v) (by simp) k h1) (Rep.free v _ T1 g1 (hn (i,v) (by simp))) (l_dj hj) (l_dj hD) (fun b o q=>h0 b o (.inl q))
  exact StD.back fin f1 hb g2 (fun q hq=>hn q (by simp [hq])) (dj_cup (dj_comm g3) (r_dj hj)) (r_dj hD) (fun b o q=>h0 b o (.inr q)) (fun q hq=>hl q (by simp [hq]))
theorem deads_at:∀ (os:List (Option V)) (cs:List C) (j:Nat) (x:V) (k:C),e.deads os cs=true→os[j]? = some (some x)→cs[j]? = some k→e.deadAt k=true
 | [],_,_,_,_,_,h,_=>by simp at h
 | some y :: os,[],j,_,_,_,_,h=>by simp at h
 | none :: os,[],j,_,_,_,_,h=>by simp at h
 | some y :: os,q :: cs,0,x,k,h,h1,h2=>by
  simp only [Env.deads,Bool.and_eq_true] at h
  simp at h2
  subst h2
  exact h.1
 | some y :: os,q :: cs,j+1,x,k,h,h1,h2=>by
  simp only [Env.deads,Bool.and_eq_true] at h
  exact deads_at os cs j x k h.2 (by simpa using h1) (by simpa using h2)
 | none :: os,q :: cs,0,x,k,h,h1,h2=>by simp at h1
 | none :: os,q :: cs,j+1,x,k,h,h1,h2=>by
  simp only [Env.deads] at h
  exact deads_at os cs j x k h (by simpa using h1) (by simpa using h2)
theorem argsV_flat:∀ (as:List (Ag V)) (us fl:List Value),ArgsV as us fl→fl.length=(qD as).length
 | [],us,fl,h=>by rw [h.2]; rfl
 | .one x :: as,us,fl,h=>by obtain ⟨u,us',fl',rfl,rfl,h3⟩:=h; simp [qD,argsV_flat as us' fl' h3]
 | .agg xs :: as,us,fl,h=>by obtain ⟨vs,us',fl',rfl,hl,rfl,h3⟩:=h; simp [qD,argsV_flat as us' fl' h3,hl]
theorem resV_flat {rs:List (Ag V)} {u:Value} {fl:List Value} (h:ResV rs u fl):fl.length=(qD rs).length:=by
 unfold ResV at h
 split at h
 ·exact argsV_flat _ _ _ h
 ·obtain ⟨us,_,h⟩:=h
  exact argsV_flat _ _ _ h
theorem argsV_ones {xs:List V} {us:List Value} (hl:us.length=xs.length):ArgsV (xs.map fun x=>(Ag.one (C.v x):Ag C)) us us:=by
 induction xs generalizing us with
 | nil=>rw [List.length_eq_zero_iff.1 hl]; exact ⟨rfl,rfl⟩
 | cons x xs ih =>
  cases us with
  | nil=>simp at hl
  | cons u us=>exact ⟨u,us,us,rfl,rfl,ih (by simpa using hl)⟩
theorem flatC_ones (xs:List V):flatC (xs.map fun x=>(Ag.one (C.v x):Ag C))=xs.map C.v:=by
 induction xs with
 | nil=>rfl
 | cons x xs ih=>simp [flatC,ih]
theorem fl_get {fl:List Value} {i:Nat} {u:Value} (h:fl[i]? = some u):fl.getD i undef=u:=by rw [List.getD_eq_getElem?_getD,h]; rfl
theorem StD.callee (h:StD c e a w D hs S) {cf:Operand} {f:Nat} {caps:List V} (hc:e.callee cf=some (f,caps)) :
  ∃ us:List Value,a.eval cf=.func (.func f) #[] us.toArray∧us.length=caps.length∧CsRep w D hs e.nx e.ob (caps.map C.v) us:=by
 unfold Env.callee at hc
 split at hc
 ·injection hc with hc
  injection hc with h1 h2
  subst h1
  subst h2
  exact ⟨[],rfl,rfl,rfl⟩
 ·split at hc
  case h_2=>cases hc
  rename_i t _ f' caps' ht
  injection hc with hc
  injection hc with h1 h2
  subst h1
  subst h2
  have hv:CRep w D hs e.nx e.ob (.v (.fn f' caps')) (a.tmps.getD t undef):=h.sl t _ ht
  obtain ⟨us,h1,h2,h3,_⟩:=hv
  obtain ⟨vs,g1,g2,g3⟩:=ba_rep (hs:=hs) (nx:=e.nx) (ob:=e.ob) caps' _ 0 caps'.length h3 (Nat.le_refl _)
  rw [List.take_length] at g3
  have:vs=us.toList:=by
   apply List.ext_getElem?
   intro i
   by_cases hi:i < vs.length
   ·have:=g2 i _ (List.getElem?_eq_getElem hi)
    rw [Nat.zero_add] at this
    rw [List.getElem?_eq_getElem hi,Array.getElem?_toList]
    exact this.symm
   ·rw [List.getElem?_eq_none (by omega),List.getElem?_eq_none (by simp; omega)]
  subst this
  exact ⟨us.toList,by show a.tmps.getD t undef=_; rw [h1],by simp [h2],g3⟩
 ·cases hc
theorem StD.call {c:Ctx X.G} (h:StD c e a w D hs S) {md:Nat→List Nat} {cf:Operand} {args:Array Operand} {ts:Array TypeId} {f:Nat} {as rs:List (Ag V)} {fin:List (Nat×V)} {cells:List C} {e1:Env}
  (ho:o.op=.call {callee:=.value cf,args:=args,argTypes:=ts}) (h1:evCall md cf args.toList e=some (f,as,cells,e1)) (hf:Fn X f as rs fin) (hn:noBorRow (qD rs)=true)
  (hfin:fin.all (fun q=>(md f).contains q.1 && q.2.noBor)=true) (h2:evRet o rs fin cells e1=some e') {next:Act→World→Prop} {Q:Exit→Act→World→Prop} (hnext:∀ a w,St c e' a w→next a w):o.wp X.P a w next Q:=by
 obtain ⟨⟨g,caps⟩,k1,h1⟩:=zbi h1
 obtain ⟨gs,k2,h1⟩:=zbi h1
 obtain ⟨⟨os,e0⟩,k3,h1⟩:=zbi h1
 simp only at h1
 split at h1
 case isFalse=>cases h1
 rename_i hdeads
 obtain ⟨xs,k4,k5⟩:=Option.map_eq_some_iff.1 h1
 simp only [Prod.mk.injEq] at k5
 obtain ⟨e_f,e_as,e_cells,e_e1⟩:=k5
 subst e_f
 subst e_as
 subst e_cells
 subst e_e1
 obtain ⟨uc,c1,c2,c3⟩:=h.callee k1
 obtain ⟨fl1,a1,a2⟩:=h.args args.toList gs k2
 have hA:=argsV_append gs (caps.map fun x=>(.one (.v x):Ag C)) _ _ _ _ a2 (argsV_ones c2)
 have hC:CsRep w D hs e.nx e.ob (flatC (gs++caps.map fun x=>(.one (.v x):Ag C))) (fl1++uc):=by
  rw [flatC_append,flatC_ones]
  exact CsRep.append _ _ _ _ a1 c3
 obtain ⟨S1,S',f1,f2,f3,f4,f5,f6,f7,f8,f9,f10,f11,f12⟩:=StD.own1 _ 0 h k3 hC
 obtain ⟨r1,r2⟩:=f2.fill os _ (fl1++uc) xs S1 (fun j=>(fl1++uc)[j]?) 0 k4 f1 (CsRep.imp f9 _ _ hC) (fun j u hj=>by rw [Nat.zero_add]; exact hj)
 obtain ⟨s1,s2⟩:=shape_ok _ _ _ xs hA r2
 obtain ⟨⟨fn,p1,p2,p3⟩,hcall⟩:=hf
 have hSD:TV.dj S1 D:=dj_sub h.dj f4
 have hS1b:∀ b o,S1 b o→b < w.heap.size:=fun b o q=>h.ob.blt b o (f4 b o q)
 have hS'b:∀ b o,S' b o→b < w.heap.size:=fun b o q=>h.ob.blt b o (f5 b o q)
 have hc:=hcall w (cup D S') S1 _ _ s1 (by rw [s2]; exact r1) (dj_cup hSD f3) (fun b o q=>q.elim (h.Dl b o) (hS'b b o)) (h.glo.mono f4 (fun b o q=>.inl q))
 -- the call is entered
 have hexec:(execOp a.eval o).run X.P w=.ok (.enter g (List.map a.eval args.toList++uc).toArray) w:=by
  have e1:(args.map a.eval)++uc.toArray=(List.map a.eval args.toList++uc).toArray:=by
   apply Array.ext'
   simp
  have hb:fn.body.isNone=false:=by cases q:fn.body <;> simp [q] at p2 ⊢
  simp only [execOp,ho,resolve,c1,Deferred.ofValue,Sem.run_bind,Sem.run_pure,Result.andThen_ok,invoke,callFunc,run_program,p1]
  simp [p3,hb,e1]
 unfold Oper.wp
 rw [hexec]
 show Calls X.P g _ w _
 refine Calls.mono hc (fun en w' hq=>?_)
 obtain ⟨u,fr,D',T1,T2,rfl,q1,q2,q3,q4,q5,q6,q7,q8,q9,q10⟩:=hq
 show next (a.put o.dst u) w'
 have h0:∀ b o,S1 b o→c.S0 b o∨c.w0.heap.size≤b:=fun b o q=>h.Ss b o (f4 b o q)
 have d1:=f2.world' q6 (dj_comm f3) (dj_comm hSD) h0
 have tS:∀ b o,cup T1 T2 b o→S1 b o∨w.heap.size≤b:=q7
 have tdj:TV.dj (cup T1 T2) S':=fun b o z1 z2=>(tS b o z1).elim (fun z=>f3 b o z z2) (fun z=>by have:=hS'b b o z2; omega)
 have tdD:TV.dj (cup T1 T2) D:=fun b o z1 z2=>(tS b o z1).elim (fun z=>hSD b o z z2) (fun z=>by have:=h.Dl b o z2; omega)
 have t0:∀ b o,cup T1 T2 b o→c.S0 b o∨c.w0.heap.size≤b:=fun b o z=>(tS b o z).elim (h0 b o) (fun z=>.inr (Nat.le_trans h.fr.size z))
 have hfl:=resV_flat q1
 have d2:=d1.objs (fr:=fr) (RepRow.free _ _ 0 T1 q2 hn) hfl (l_dj tdj) (l_dj tdD) (fun b o z=>t0 b o (.inl z))
 obtain ⟨e2,z1,z2⟩:=zbi h2
 have hrd:∀ i,e0.nx≤i→i < e0.nx+(qD rs).length→(fun j=>fr[j - e0.nx]?) i=some ((fun i=>if e0.nx≤i then fr.getD (i - e0.nx) undef else hs i) i):=fun i m1 m2=>by
  have:i - e0.nx < fr.length:=by omega
  simp only [m1,if_true]
  rw [List.getD_eq_getElem?_getD,List.getElem?_eq_getElem this]
  rfl
 have hxr:RepRow w' D (fun j=>fr[j - e0.nx]?) (qD rs) e0.nx T1:=RepRow.shift _ _ _ 0 e0.nx T1 (RepRow.free _ _ 0 T1 q2 hn) (fun q _=>by
  show fr[e0.nx+q - e0.nx]? = fr[0+q]?
  rw [Nat.add_sub_cancel_left,Nat.zero_add])
 have hgt:∀ j v,fr[j]? = some v→(fun i=>if e0.nx≤i then fr.getD (i - e0.nx) undef else hs i) (e0.nx+j)=v:=fun j v hj=>by
  simp only [Nat.le_add_right,if_true,Nat.add_sub_cancel_left]
  exact fl_get hj
 have hsl:SlRep w' D (fun i=>if e0.nx≤i then fr.getD (i - e0.nx) undef else hs i) (e0.nx+(qD rs).length) (entOs (qD rs) e0.nx++e0.ob) (retS rs e0.nx) u:=by
  unfold ResV at q1
  split at q1
  ·rename_i r
   obtain ⟨u1,r1',e3,e4,e5⟩:∃ u1 r1',[u]=u1 :: r1'∧AgRep w' D (fun i=>if e0.nx≤i then fr.getD (i - e0.nx) undef else hs i) (e0.nx+(qD [r]).length) (entOs (qD [r]) e0.nx++e0.ob) ((entA [r] e0.nx).headD (.agg [])) u1∧r1'=[]:=by
    have:=ent_as (nx:=e0.nx+(qD [r]).length) (ob:=entOs (qD [r]) e0.nx++e0.ob) [r] e0.nx T1 [u] fr _ q1 hxr hrd hgt (Nat.le_refl _)
    cases r with
    | one x=>obtain ⟨u1,r1',w1,w2,w3⟩:=this; exact ⟨u1,r1',w1,w2,w3⟩
    | agg x=>obtain ⟨u1,r1',w1,w2,w3⟩:=this; exact ⟨u1,r1',w1,w2,w3⟩
   injection e3 with e3 _
   subst e3
   cases r <;> exact e4
  ·rename_i hne
   obtain ⟨us,hu,hus⟩:=q1
   have:=ent_as (nx:=e0.nx+(qD rs).length) (ob:=entOs (qD rs) e0.nx++e0.ob) rs e0.nx T1 us fr _ hus hxr hrd hgt (Nat.le_refl _)
   have hshape:retS rs e0.nx=.tup (entA rs e0.nx):=by
    unfold retS
    split
    ·rename_i g hg
     exfalso
     cases rs with
     | nil=>cases hg
     | cons r rs' =>
      cases rs' with
      | nil=>exact hne r rfl
      | cons r2 rs''=>cases r <;> cases r2 <;> simp [entA] at hg
    ·rfl
   rw [hshape]
   exact ⟨us,hu,this⟩
 have d3:=d2.putO z1 hsl
 simp only [List.all_eq_true,Bool.and_eq_true] at hfin
 have hL:∀ q ∈ fin,∀ k,(flatC (gs++caps.map fun x=>(Ag.one (C.v x):Ag C)))[q.1]? = some k→ownLoc w' (fun i=>if e0.nx≤i then fr.getD (i - e0.nx) undef else hs i) k ((fl1++uc).getD q.1 undef):=fun q hq k hk=>by
  have hql:q.1 < (flatC (gs++caps.map fun x=>(.one (.v x):Ag C))).length:=(List.getElem?_eq_some_iff.1 hk).1
  obtain ⟨x,hx⟩:=f12 q.1 (by rw [Nat.zero_add]; exact (hfin q hq).1) hql
  obtain ⟨uq,g1,g2⟩:=CsRep.get _ _ q.1 k hC hk
  have hloc:=f11 q.1 k uq x hk g1 hx
  have hdead:=deads_at os _ q.1 x k hdeads hx hk
  rw [fl_get g1]
  cases k with
  | ref i p =>
   simp only [Env.deadAt] at hdead
   split at hdead
   case h_2=>cases hdead
   rename_i hnode
   obtain ⟨v,m1,m2⟩:=f2.lnode hnode
   have hi:i < e0.nx:=f2.id i v m1
   obtain ⟨Z1,Z2,y1,y2,y3,_⟩:=f2.ob.focus e0.ob S' i v m1
   have hS'same:TV.sameOn w w' S':=q6.sameOn (dj_comm f3) hS'b
   have hDsame:TV.sameOn w w' D:=q6.sameOn (dj_comm hSD) h.Dl
   have:=y1.loc_keep m2 hDsame (qS hS'same (by rw [y2]; exact sub_l _ _))
   show loc w' (if e0.nx≤i then fr.getD (i - e0.nx) undef else hs i) p=some uq
   rw [if_neg (by omega),this]
   exact hloc
  | _=>trivial
 obtain ⟨S3,d4⟩:=StD.back fin d3 z2 q3 (fun q hq=>(hfin q hq).2) (dj_cup (dj_comm q4) (r_dj tdj)) (r_dj tdD) (fun b o z=>t0 b o (.inr z)) hL
 exact hnext _ _ ⟨D,_,S3,d4⟩
end
end Go.TV
namespace Go.TV
section
variable {X:Cfg} {Post:Exit→Env→Prop} {e e':Env}
theorem opsV_call {ops:Array Oper} {o:Oper} {l:List Oper} {cf:Operand} {args:Array Operand} {ts:Array TypeId} {f:Nat} {as rs:List (Ag V)} {fin:List (Nat×V)} {cells:List C} {e1:Env}
  (md:Nat→List Nat) (hf:Fn X f as rs fin) (hg:o.guard=none) (ho:o.op=.call {callee:=.value cf,args:=args,argTypes:=ts}) (h1:evCall md cf args.toList e=some (f,as,cells,e1)) (hn:noBorRow (qD rs)=true)
  (hfin:fin.all (fun q=>(md f).contains q.1 && q.2.noBor)=true) (h2:evRet o rs fin cells e1=some e') (h:opsV X ops l Post e'):opsV X ops (o :: l) Post e:=fun k a w ⟨D,hs,S,hd⟩ =>
 wpList_plain hg (fun K hK=>hd.call ho h1 hf hn hfin h2 (fun a w hs'=>hK a w (h k a w hs')))
end
def C.ren (os:List (Nat×Nat)):C→C
 | .ref i p=>match lk i os with | some n=>.ref n p | none=>.dead
 | .part i p n lo hi=>match lk i os with | some k=>.part k p n lo hi | none=>.dead
 | .addr i p n r j=>match lk i os with | some k=>.addr k p n r j | none=>.dead
 | x=>x
def shedS (os:List (Nat×Nat)) (sl:List (Nat×Sl)):List Nat→Option (List (Nat×Sl))
 | []=>some []
 | t :: ks=>(lk t sl).bind fun s=>(shedS os sl ks).map fun r=>(t,s.map (C.ren os)) :: r
def shedO (np nx:Nat):List (Nat×Nat)→List (Nat×V)→Option (List (Nat×V))
 | [],_=>some []
 | (i,k) :: os,ob=>(lk i ob).bind fun v=>if k < nx∧(i < np∨k < np→i=k) then (shedO np nx os (delO i ob)).bind fun r=>match lk k r with | none=>some ((k,v) :: r) | some _=>none else none
def Env.shed (e:Env) (ks:List Nat) (os:List (Nat×Nat)) (nx:Nat):Option Env:=
 if e.np≤nx then (shedS os e.sl ks).bind fun sl=>(shedO e.np nx os e.ob).map fun ob=>{N:=e.N,np:=e.np,nx:=nx,sl:=sl,ob:=ob} else none
section
variable {gG:GG} {c:Ctx gG} {e e':Env} {a:Act} {w:World} {D:CS} {hs:Nat→Value} {S:CS} {X:Cfg}
def oldOf (os:List (Nat×Nat)) (k:Nat):Nat:=match os.find? (fun q=>q.2 == k) with | some q=>q.1 | none=>k
theorem lk_delO {α:Type} {i k:Nat}:∀ (l:List (Nat×α)) (v:α),lk k (delO i l)=some v→(k≠i→lk k l=some v)
 | [],_,h,_=>by cases h
 | (j,x) :: r,v,h,hk=>by
  simp only [delO] at h
  split at h
  ·rename_i q
   rw [lk_cons,if_neg (by omega)]
   exact h
  ·rw [lk_cons] at h ⊢
   split
   ·rename_i q; rw [if_pos q] at h; exact h
   ·rename_i q; rw [if_neg q] at h; exact lk_delO r v h hk
theorem shedO_ok {np nx:Nat}:∀ (os:List (Nat×Nat)) (ob ob':List (Nat×V)) (S:CS),shedO np nx os ob=some ob'→ObRep w D hs ob S →
  (∀ k v,lk k ob'=some v→∃ i,lk i ob=some v∧(i,k) ∈ os∧k < nx∧(i < np∨k < np→i=k))∧(∀ i k,(i,k) ∈ os→∃ v,lk k ob'=some v∧lk i ob=some v)∧(∀ i i' k,(i,k) ∈ os→(i',k) ∈ os→i=i') ∧
  ∃ S',sub S' S∧∀ hs':Nat→Value,(∀ i k,(i,k) ∈ os→hs' k=hs i)→ObRep w D hs' ob' S'
 | [],ob,ob',S,h,ho=>by
  injection h with h
  subst h
  exact ⟨fun k v q=>(by cases q),fun i k q=>(by cases q),fun i i' k q=>(by cases q),emp,fun _ _ q=>q.elim,fun _ _=>rfl⟩
 | (i,k) :: os,ob,ob',S,h,ho=>by
  simp only [shedO] at h
  obtain ⟨v,h1,h⟩:=zbi h
  split at h
  case isFalse=>cases h
  rename_i hk
  obtain ⟨r,h2,h⟩:=zbi h
  split at h
  case h_2=>cases h
  rename_i hr
  injection h with h
  subst h
  obtain ⟨S1,G,g1,g2,g3,g4,g5⟩:=ho.focus ob S i v h1
  have hdel:lk i (delO i ob)=none:=ObRep.del ob S ho
  obtain ⟨f1,f2,f3,S',f4,f5⟩:=shedO_ok os (delO i ob) r G h2 g4
  have hne:∀ i' k',(i',k') ∈ os→k'≠k:=fun i' k' q e=>by
   obtain ⟨v',q1,_⟩:=f2 i' k' q
   rw [e,hr] at q1
   cases q1
  have hni:∀ i' v',lk i' (delO i ob)=some v'→i'≠i:=fun i' v' q e=>by rw [e,hdel] at q; cases q
  refine ⟨fun k' v' q=>?_,fun i' k' q=>?_,fun i1 i2 k' q1 q2=>?_,cup S1 S',?_,fun hs' q=>?_⟩
  ·rw [lk_cons] at q
   split at q
   ·rename_i e
    subst e
    injection q with q
    subst q
    exact ⟨i,h1,by simp,hk.1,hk.2⟩
   ·obtain ⟨i',q1,q2,q3,q4⟩:=f1 k' v' q
    exact ⟨i',lk_delO ob v' q1 (hni _ _ q1),by simp [q2],q3,q4⟩
  ·rcases List.mem_cons.1 q with q | q
   ·injection q with e1 e2
    subst e1
    subst e2
    exact ⟨v,by rw [lk_cons,if_pos rfl],h1⟩
   ·obtain ⟨v',q1,q2⟩:=f2 i' k' q
    exact ⟨v',by rw [lk_cons,if_neg (hne i' k' q)]; exact q1,lk_delO ob v' q2 (hni _ _ q2)⟩
  ·rcases List.mem_cons.1 q1 with q1 | q1 <;> rcases List.mem_cons.1 q2 with q2 | q2
   ·injection q1 with a1 a2
    injection q2 with b1 b2
    omega
   ·injection q1 with a1 a2
    exact absurd a2 (hne _ _ q2)
   ·injection q2 with a1 a2
    exact absurd a2 (hne _ _ q1)
   ·exact f3 _ _ _ q1 q2
  ·rw [g2]
   exact fun b o q=>q.elim .inl (fun z=>.inr (f4 b o z))
  ·refine ⟨S1,S',hr,?_,f5 hs' (fun i' k' z=>q i' k' (by simp [z])),fun b o z1 z2=>g3 b o z1 (f4 b o z2),rfl⟩
   rw [q i k (by simp)]
   exact g1
theorem mem_lk {os:List (Nat×Nat)} {i n:Nat} (h:lk i os=some n):(i,n) ∈ os:=by
 induction os with
 | nil=>cases h
 | cons q os ih =>
  obtain ⟨a,b⟩:=q
  rw [lk_cons] at h
  split at h
  ·rename_i e
   injection h with h
   subst e
   subst h
   simp
  ·simp [ih h]
theorem CRep.ren {ob':List (Nat×V)} {hs':Nat→Value} {nx nx':Nat} {ob:List (Nat×V)} {os:List (Nat×Nat)} (h1:∀ i n,(i,n) ∈ os→n < nx'∧hs' n=hs i∧∀ v,lk n ob'=some v→lk i ob=some v) {k:C} {u:Value}
  (h:CRep w D hs nx ob k u):CRep w D hs' nx' ob' (k.ren os) u:=by
 have key:∀ i n p φ,lk i os=some n→Pth w hs ob i p φ→n < nx'∧Pth w hs' ob' n p φ:=fun i n p φ q hp=>by
  obtain ⟨a1,a2,a3⟩:=h1 i n (mem_lk q)
  exact ⟨a1,fun v x q1 q2=>by rw [a2]; exact hp v x (a3 v q1) q2⟩
 cases k with
 | v x=>exact h
 | ref i p =>
  simp only [C.ren]
  split
  ·exact key _ _ _ _ ‹_› h.2
  ·trivial
 | part i p n lo hi =>
  simp only [C.ren]
  split
  ·exact key _ _ _ _ ‹_› h.2
  ·trivial
 | addr i p n r j =>
  simp only [C.ren]
  split
  ·exact key _ _ _ _ ‹_› h.2
  ·trivial
 | ba row=>exact h
 | dead=>trivial
theorem CsRep.ren {ob':List (Nat×V)} {hs':Nat→Value} {nx nx':Nat} {ob:List (Nat×V)} {os:List (Nat×Nat)} (h1:∀ i n,(i,n) ∈ os→n < nx'∧hs' n=hs i∧∀ v,lk n ob'=some v→lk i ob=some v):∀ (ks:List C) (us:List Value),
  CsRep w D hs nx ob ks us→CsRep w D hs' nx' ob' (ks.map (C.ren os)) us
 | [],_,h=>h
 | k :: ks,us,h=>by
  obtain ⟨u,r,e,h2,h3⟩:=h
  exact ⟨u,r,e,CRep.ren h1 h2,CsRep.ren h1 ks r h3⟩
theorem AgRep.ren {ob':List (Nat×V)} {hs':Nat→Value} {nx nx':Nat} {ob:List (Nat×V)} {os:List (Nat×Nat)} (h1:∀ i n,(i,n) ∈ os→n < nx'∧hs' n=hs i∧∀ v,lk n ob'=some v→lk i ob=some v) {g:Ag C} {u:Value}
  (h:AgRep w D hs nx ob g u):AgRep w D hs' nx' ob' (g.map (C.ren os)) u:=by
 cases g with
 | one k=>exact CRep.ren h1 h
 | agg ks=>obtain ⟨us,e,h⟩:=h; exact ⟨us,e,CsRep.ren h1 ks us h⟩
theorem AgsRep.ren {ob':List (Nat×V)} {hs':Nat→Value} {nx nx':Nat} {ob:List (Nat×V)} {os:List (Nat×Nat)} (h1:∀ i n,(i,n) ∈ os→n < nx'∧hs' n=hs i∧∀ v,lk n ob'=some v→lk i ob=some v):∀ (ks:List (Ag C)) (us:List Value),
  AgsRep w D hs nx ob ks us→AgsRep w D hs' nx' ob' (ks.map (Ag.map (C.ren os))) us
 | [],_,h=>h
 | k :: ks,us,h=>by
  obtain ⟨u,r,e,h2,h3⟩:=h
  exact ⟨u,r,e,AgRep.ren h1 h2,AgsRep.ren h1 ks r h3⟩
theorem SlRep.ren {ob':List (Nat×V)} {hs':Nat→Value} {nx nx':Nat} {ob:List (Nat×V)} {os:List (Nat×Nat)} (h1:∀ i n,(i,n) ∈ os→n < nx'∧hs' n=hs i∧∀ v,lk n ob'=some v→lk i ob=some v) {s:Sl} {u:Value}
  (h:SlRep w D hs nx ob s u):SlRep w D hs' nx' ob' (s.map (C.ren os)) u:=by
 cases s with
 | pl g=>exact AgRep.ren h1 h
 | tup gs=>obtain ⟨us,e,h⟩:=h; exact ⟨us,e,AgsRep.ren h1 gs us h⟩
theorem shedS_ok {os:List (Nat×Nat)} {sl:List (Nat×Sl)}:∀ (ks:List Nat) (sl':List (Nat×Sl)),shedS os sl ks=some sl'→∀ t s,lk t sl'=some s→∃ s0,lk t sl=some s0∧s=s0.map (C.ren os)
 | [],sl',h,t,s,q=>by injection h with h; subst h; cases q
 | k :: ks,sl',h,t,s,q=>by
  obtain ⟨s0,h1,h⟩:=zbi h
  obtain ⟨r,h2,rfl⟩:=Option.map_eq_some_iff.1 h
  rw [lk_cons] at q
  split at q
  ·rename_i e
   subst e
   injection q with q
   exact ⟨s0,h1,q.symm⟩
  ·exact shedS_ok ks r h2 t s q
theorem find_old {os:List (Nat×Nat)} (hu:∀ i i' k,(i,k) ∈ os→(i',k) ∈ os→i=i') {i k:Nat} (h:(i,k) ∈ os):oldOf os k=i:=by
 unfold oldOf
 split
 ·rename_i q hq
  have h1:=List.find?_some hq
  have h2:=List.mem_of_find?_eq_some hq
  simp at h1
  subst h1
  exact hu _ _ _ h2 h
 ·rename_i hq
  have:=List.find?_eq_none.1 hq _ h
  simp at this
theorem St.shed {ks:List Nat} {os:List (Nat×Nat)} {nx:Nat} (he:e.shed ks os nx=some e') (h:St c e a w):St c e' a w:=by
 obtain ⟨D,hs,S,h⟩:=h
 unfold Env.shed at he
 split at he
 case isFalse=>cases he
 rename_i hnp
 obtain ⟨sl,h1,he⟩:=zbi he
 obtain ⟨ob,h2,rfl⟩:=Option.map_eq_some_iff.1 he
 obtain ⟨f1,f2,f3,S',f4,f5⟩:=shedO_ok os e.ob ob S h2 h.ob
 have hop:∀ j,j < e.np→oldOf os j=j:=fun j hj=>by
  unfold oldOf
  split
  ·rename_i q hq
   have g1:=List.find?_some hq
   have g2:=List.mem_of_find?_eq_some hq
   simp at g1
   obtain ⟨v,g3,_⟩:=f2 q.1 q.2 g2
   obtain ⟨i,_,g5,_,g7⟩:=f1 _ _ g3
   have:=f3 _ _ _ g5 g2
   subst this
   have:=g7 (.inr (by omega))
   omega
  ·rfl
 refine ⟨D,fun j=>hs (oldOf os j),S',?_⟩
 have hren:∀ i n,(i,n) ∈ os→n < nx∧hs (oldOf os n)=hs i∧∀ v,lk n ob=some v→lk i e.ob=some v:=fun i n q=>by
  obtain ⟨v,g1,g2⟩:=f2 i n q
  obtain ⟨i',g3,g4,g5,_⟩:=f1 n v g1
  exact ⟨g5,by rw [find_old f3 q],fun v' q'=>by rw [g1] at q'; injection q' with q'; rw [← q']; exact g2⟩
 exact {
  ob:=f5 _ (fun i k q=>by show hs (oldOf os k)=hs i; rw [find_old f3 q])
  sl:=fun t s q=>by
   obtain ⟨s0,q1,rfl⟩:=shedS_ok ks sl h1 t s q
   exact SlRep.ren hren (h.sl t s0 q1)
  sz:=h.sz
  df:=h.df
  dj:=fun b o q1 q2=>h.dj b o (f4 b o q1) q2
  Dl:=h.Dl
  id:=fun i v q=>by obtain ⟨_,_,_,g,_⟩:=f1 i v q; exact g
  npx:=hnp
  hp:=fun i hi=>by show hs (oldOf os i)=c.h0 i; rw [hop i hi]; exact h.hp i hi
  fr:=h.fr
  Ss:=fun b o q=>h.Ss b o (f4 b o q)
  D0:=h.D0
  gl:=h.gl
  Ds:=h.Ds}
def Shd (I:Env→Prop):Env→Prop:=fun e=>I e∨∀ (gG:GG) (c:Ctx gG) (a:Act) (w:World),St c e a w→∃ e',I e'∧St c e' a w
theorem Shd.of {I:Env→Prop} (ks:List Nat) (os:List (Nat×Nat)) (nx:Nat) (he:e.shed ks os nx=some e') (h:I e'):Shd I e:=.inr fun _ _ _ _ hs=>⟨e',h,St.shed he hs⟩
theorem Shd.st {I:Env→Prop} (h:Shd I e) (hs:St c e a w):∃ e',I e'∧St c e' a w:=by
 rcases h with h | h
 ·exact ⟨e,h,hs⟩
 ·exact h _ c a w hs
theorem zV {Post:Exit→Env→Prop} {cd d:Code} (J:Env→Prop) (h:wpV X cd (thenV (Shd J) Post) e) (h2:∀ e,J e→wpV X d Post e):wpV X (.seq cd d) Post e:=
 wpV_seq (wpV_mono h fun x e q=>by
  cases x with
  | normal=>exact fun k a w hs=>(Shd.st q hs).elim fun e' z=>h2 e' z.1 k a w z.2
  | _=>exact q)
theorem wpV_loopS {Post:Exit→Env→Prop} {cd:Code} (I:Nat→Env→Prop) {n:Nat} (h0:Shd (I n) e) (h:∀ n e,I n e→wpV X cd (thenV (Shd fun e'=>∃ m,m < n∧I m e') Post) e):wpV X (.loop cd) Post e:=by
 refine wpV_loop (fun n e=>Shd (I n) e) h0 fun n e hI=>fun k a w hs=>?_
 obtain ⟨e',h1,h2⟩:=hI.st hs
 refine Code.wp_mono (fun x a w q=>?_) (h n e' h1 k a w h2)
 obtain ⟨e'',q1,q2⟩:=q
 cases x with
 | normal =>
  obtain ⟨e3,⟨m,q3,q4⟩,q5⟩:=Shd.st (I:=fun e'=>∃ m,m < n∧I m e') q1 q2
  exact ⟨e3,⟨m,q3,.inl q4⟩,q5⟩
 | _=>exact ⟨e'',q1,q2⟩
end
end Go.TV
