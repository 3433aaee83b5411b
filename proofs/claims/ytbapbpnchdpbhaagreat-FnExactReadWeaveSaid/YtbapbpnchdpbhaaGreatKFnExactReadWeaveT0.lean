/- Memory told as trees, part 1. -/
import Derived.Tactics
import Derived.Orders
import Derived.Eval
import Derived.Lib.Builder
import Derived.Lib.AppendStr
import Derived.Below
import Derived.Laws.MakeOwn
import Derived.Laws.AppendOwn
import Derived.Laws.Slices
import Derived.Laws.BitsLemmas
import Derived.Lib.ReflectliteSwap
import Derived.Lib.ConvBytes
import Derived.Laws.Tables
import Derived.Laws.BytesString
import Derived.Laws.IdiomCopy
set_option linter.unusedVariables false
set_option linter.unusedSimpArgs false
set_option maxHeartbeats 8000000
set_option maxRecDepth 100000
namespace Go.TV
theorem zbi {α β:Type} {x:Option α} {f:α→Option β} {b:β} (h:x.bind f=some b):∃ a,x=some a∧f a=some b:=Option.bind_eq_some_iff.1 h
theorem zso {α:Type} {a b:α} (h:some a=some b):a=b:=Option.some.inj h
abbrev CS:=Nat→Nat→Prop
def emp:CS:=fun _ _=>False
def cup (a b:CS):CS:=fun x y=>a x y∨b x y
def dj (a b:CS):Prop:=∀ x y,a x y→b x y→False
def sub (a b:CS):Prop:=∀ x y,a x y→b x y
def rng (b o n:Nat):CS:=fun x y=>x=b∧o≤y∧y < o+n
theorem zF9 {a b:CS} (h:∀ x y,a x y↔b x y):a=b:=by
 funext x y
 exact propext (h x y)
theorem zV (a:CS):cup a emp=a:=zF9 fun _ _=>by simp [cup,emp]
theorem jE (a:CS):cup emp a=a:=zF9 fun _ _=>by simp [cup,emp]
theorem kY (a b c:CS):cup (cup a b) c=cup a (cup b c):=zF9 fun _ _=>by simp [cup,or_assoc]
theorem cup_comm (a b:CS):cup a b=cup b a:=zF9 fun _ _=>by simp [cup,or_comm]
theorem zA5 (a b c:CS):cup a (cup b c)=cup b (cup a c):=by rw [← kY,cup_comm a b,kY]
theorem qL {a b:CS} (h:dj a b):dj b a:=fun x y p q=>h x y q p
theorem qR (a:CS):dj a emp:=fun _ _ _ h=>h
theorem zW (a:CS):dj emp a:=fun _ _ h _=>h
theorem dj_cup {a b c:CS} (h:dj a b) (k:dj a c):dj a (cup b c):=fun x y p q=>q.elim (h x y p) (k x y p)
theorem qV {a b c:CS} (h:dj a c) (k:dj b c):dj (cup a b) c:=fun x y p q=>p.elim (fun p=>h x y p q) (fun p=>k x y p q)
theorem dj_l {a b c:CS} (h:dj a (cup b c)):dj a b:=fun x y p q=>h x y p (.inl q)
theorem zE5 {a b c:CS} (h:dj a (cup b c)):dj a c:=fun x y p q=>h x y p (.inr q)
theorem kG {a b c:CS} (h:dj (cup a b) c):dj a c:=fun x y p q=>h x y (.inl p) q
theorem vZ {a b c:CS} (h:dj (cup a b) c):dj b c:=fun x y p q=>h x y (.inr p) q
theorem zD (a:CS):sub a a:=fun _ _ h=>h
theorem zZ {a b c:CS} (h:sub a b) (k:sub b c):sub a c:=fun x y p=>k x y (h x y p)
theorem qU (a b:CS):sub a (cup a b):=fun _ _ h=>.inl h
theorem yO (a b:CS):sub b (cup a b):=fun _ _ h=>.inr h
theorem yR {a b c:CS} (h:dj a c) (k:sub b a):dj b c:=fun x y p q=>h x y (k x y p) q
theorem zA0 {a b c:CS} (h:dj a c) (k:sub b c):dj a b:=fun x y p q=>h x y p (k x y q)
def ad (b o:Nat):Addr:=⟨b,o,none⟩
theorem zC0 (b o n:Nat):(ad b o).add n=ad b (o+n):=by
 unfold Addr.add ad
 split <;> simp_all
def zY4 (w:World) (b:Nat):Option (TypeId×Nat×(Nat×Nat)):=match w.heap[b]? with
 | some (.cells c e f)=>some (e,c.size,f)
 | _=>none
structure same (w w':World) (b o:Nat):Prop where
 c:w'.cell? (ad b o)=w.cell? (ad b o)
 f:w'.frozen? (ad b o)=w.frozen? (ad b o)
 s:zY4 w' b=zY4 w b
def sameOn (w w':World) (s:CS):Prop:=∀ b o,s b o→same w w' b o
theorem same_refl (w:World) (b o:Nat):same w w b o:=⟨rfl,rfl,rfl⟩
theorem zH (w:World) (s:CS):sameOn w w s:=fun _ _ _=>same_refl w _ _
theorem zQ {w w':World} {s t:CS} (h:sameOn w w' s) (k:sub t s):sameOn w w' t:=fun b o p=>h b o (k b o p)
theorem sameOn_trans {w w' w'':World} {s:CS} (h:sameOn w w' s) (k:sameOn w' w'' s):sameOn w w'' s:=
 fun b o p=>⟨(k b o p).1.trans (h b o p).1,(k b o p).2.trans (h b o p).2,(k b o p).3.trans (h b o p).3⟩
inductive V where
 | sc (v:Value)
 | list (own:Bool) (n:Nat) (rows:List (List V))
 | box (own:Bool) (row:List V)
 | fn (f:FuncId) (caps:List V)
 | bld (t e:Nat) (s:ByteArray)
 | dead
 deriving Inhabited
def plain:Value→Bool
 | .bool _ | .int .. | .string _ | .nilFunc | .nilIface | .pointer none=>true
 | _=>false
def Own (w:World) (b o n:Nat):Prop:=∀ k,k < n→(∃ v,w.cell? (ad b (o+k))=some v)∧w.frozen? (ad b (o+k))=false
def rdm (w:World) (b o:Nat):Nat→Option Value:=fun k=>w.cell? (ad b (o+k))
def nilish (own:Bool) (u:Value):Prop:=u=.slice none 0 0∨(own=false∧∃ a,u=.slice (some a) 0 0)
theorem yT {u:Value} (h:nilish true u):u=.slice none 0 0:=by
 rcases h with h | ⟨h,_⟩
 ·exact h
 ·cases h
theorem zK8 {own:Bool} {u:Value} (h:nilish own u):∃ a,u=.slice a 0 0:=by
 rcases h with h | ⟨_,a,h⟩
 ·exact ⟨_,h⟩
 ·exact ⟨_,h⟩
def Bld (w:World) (t e:Nat) (s:ByteArray) (u:Value) (S:CS):Prop:=
 ∃ b p v,u=.pointer (some (ad b 0))∧w.heap[b]? = some (.cells #[p,v] t (0,0))∧(p=.pointer none∨p=.pointer (some (ad b 0)))∧w.ownsRow 0 e 1 v s.size (Go.Lib.strCells s)∧v.ownBlock≠some b∧(s.size=0→v=.slice none 0 0) ∧
  S=fun x _=>x=b∨v.ownBlock=some x
mutual
def Rep (w:World) (D:CS):V→Value→CS→Prop
 | .sc x,u,S=>u=x∧plain x=true∧S=emp
 | .list own n rows,u,S=>(rows=[]∧nilish own u∧S=emp) ∨
   ∃ b o cap S1,u=.slice (some (ad b o)) rows.length cap∧rows.length≤cap∧RepRows w D n b o rows 0 S1 ∧
    match own with
    | true=>Own w b o (cap * n)∧dj (rng b o (cap * n)) S1∧S=cup (rng b o (cap * n)) S1
    | false=>S1=emp∧S=emp∧sub (rng b o (rows.length * n)) D
 | .box own row,u,S=>∃ b o S1,u=.pointer (some (ad b o))∧RepRow w D (rdm w b o) row 0 S1 ∧
    match own with
    | true=>Own w b o row.length∧dj (rng b o row.length) S1∧S=cup (rng b o row.length) S1
    | false=>S1=emp∧S=emp∧sub (rng b o row.length) D
 | .fn f caps,u,S=>∃ us:Array Value,u=.func (.func f) #[] us∧us.size=caps.length∧RepRow w D (fun k=>us[k]?) caps 0 emp∧S=emp
 | .bld t e s,u,S=>Bld w t e s u S
 | .dead,_,S=>S=emp
def RepRow (w:World) (D:CS) (rd:Nat→Option Value):List V→Nat→CS→Prop
 | [],_,S=>S=emp
 | v :: vs,k,S=>∃ u S1 S2,rd k=some u∧Rep w D v u S1∧RepRow w D rd vs (k+1) S2∧dj S1 S2∧S=cup S1 S2
def RepRows (w:World) (D:CS) (n b o:Nat):List (List V)→Nat→CS→Prop
 | [],_,S=>S=emp
 | r :: rs,k,S=>∃ S1 S2,r.length=n∧RepRow w D (rdm w b (o+k * n)) r 0 S1∧RepRows w D n b o rs (k+1) S2∧dj S1 S2∧S=cup S1 S2
end
theorem Own_same {w w':World} {b o n:Nat} (h:Own w b o n) (hs:sameOn w w' (rng b o n)):Own w' b o n:=fun k hk=>by
 have:=hs b (o+k) ⟨rfl,by omega,by omega⟩
 rw [this.1,this.2]
 exact h k hk
theorem blk_same {w w':World} {b:Nat} {cur:Array Value} {e:TypeId} {f:Nat×Nat} (h:w.heap[b]? = some (.cells cur e f)) (hs:∀ o,same w w' b o):w'.heap[b]? = some (.cells cur e f):=by
 have hm:=(hs 0).3
 unfold zY4 at hm
 rw [h] at hm
 simp only at hm
 cases h':w'.heap[b]? with
 | none=>rw [h'] at hm; cases hm
 | some o =>
  rw [h'] at hm
  cases o with
  | cells c' e' f' =>
   simp only [Option.some.injEq,Prod.mk.injEq] at hm
   obtain ⟨rfl,h2,rfl⟩:=hm
   congr 2
   apply Array.ext h2
   intro i h3 h4
   have hc:=(hs i).1
   simp only [World.cell?,ad,h,h',Option.isSome_none,Bool.false_eq_true,if_false] at hc
   rw [Array.getElem?_eq_getElem h3,Array.getElem?_eq_getElem h4] at hc
   exact zso hc
  | _=>cases hm
theorem Bld.frame {w w':World} {t e:Nat} {s:ByteArray} {u:Value} {S:CS} (h:Bld w t e s u S) (hs:sameOn w w' S):Bld w' t e s u S:=by
 obtain ⟨b,p,v,h1,h2,h3,h4,h5,h9,rfl⟩:=h
 refine ⟨b,p,v,h1,blk_same h2 (fun o=>hs b o (.inl rfl)),h3,⟨h4.1,?_⟩,h5,h9,rfl⟩
 rcases h4.2 with h6 | ⟨g,cap,cur,rfl,g1,g2,g3⟩
 ·exact .inl h6
 ·exact .inr ⟨g,cap,cur,rfl,g1,blk_same g2 (fun o=>hs g o (.inr rfl)),g3⟩
mutual
theorem Rep.frame {w w':World} {D D':CS} (hD:sub D D') (hd:sameOn w w' D):∀ (v:V) (u:Value) (S:CS),Rep w D v u S→sameOn w w' S→Rep w' D' v u S
 | .sc _,_,_,h,_=>h
 | .list own n rows,u,S,h,hs=>by
  rcases h with h | ⟨b,o,cap,S1,hu,hc,hr,hm⟩
  ·exact .inl h
  ·refine .inr ⟨b,o,cap,S1,hu,hc,?_,?_⟩
   ·cases own with
    | true =>
     obtain ⟨_,_,rfl⟩:=hm
     refine RepRows.frame hD hd n b o rows 0 S1 hr (zQ hs (yO _ _)) (fun k _ hk=>?_)
     refine (hs b (o+k) (.inl ⟨rfl,by omega,?_⟩)).1
     have:rows.length * n≤cap * n:=Nat.mul_le_mul_right n hc
     simp only [Nat.zero_add] at hk
     omega
    | false =>
     obtain ⟨rfl,rfl,hsub⟩:=hm
     refine RepRows.frame hD hd n b o rows 0 emp hr hs (fun k _ hk=>?_)
     simp only [Nat.zero_add] at hk
     refine (?_:same w w' b (o+k)).1
     exact hd b (o+k) (hsub b (o+k) ⟨rfl,by omega,by omega⟩)
   ·cases own with
    | true =>
     obtain ⟨ho,hj,rfl⟩:=hm
     exact ⟨Own_same ho (zQ hs (qU _ _)),hj,rfl⟩
    | false=>exact ⟨hm.1,hm.2.1,zZ hm.2.2 hD⟩
 | .box own row,u,S,h,hs=>by
  obtain ⟨b,o,S1,hu,hr,hm⟩:=h
  refine ⟨b,o,S1,hu,?_,?_⟩
  ·cases own with
   | true =>
    obtain ⟨_,_,rfl⟩:=hm
    exact RepRow.frame hD hd row _ _ 0 S1 hr (zQ hs (yO _ _)) (fun k _ hk=>(hs b (o+k) (.inl ⟨rfl,by omega,by omega⟩)).1)
   | false =>
    obtain ⟨rfl,rfl,hsub⟩:=hm
    exact RepRow.frame hD hd row _ _ 0 emp hr hs (fun k _ hk=>(hd b (o+k) (hsub b (o+k) ⟨rfl,by omega,by omega⟩)).1)
  ·cases own with
   | true =>
    obtain ⟨ho,hj,rfl⟩:=hm
    exact ⟨Own_same ho (zQ hs (qU _ _)),hj,rfl⟩
   | false=>exact ⟨hm.1,hm.2.1,zZ hm.2.2 hD⟩
 | .fn f caps,u,S,h,hs=>by
  obtain ⟨us,hu,hz,hr,rfl⟩:=h
  exact ⟨us,hu,hz,RepRow.frame hD hd caps _ _ 0 emp hr hs (fun _ _ _=>rfl),rfl⟩
 | .bld _ _ _,_,_,h,hs=>Bld.frame h hs
 | .dead,_,_,h,_=>h
theorem RepRow.frame {w w':World} {D D':CS} (hD:sub D D') (hd:sameOn w w' D):∀ (vs:List V) (rd rd':Nat→Option Value) (k:Nat) (S:CS),RepRow w D rd vs k S→sameOn w w' S →
  (∀ j,k≤j→j < k+vs.length→rd' j=rd j)→RepRow w' D' rd' vs k S
 | [],_,_,_,_,h,_,_=>h
 | v :: vs,rd,rd',k,S,h,hs,hr=>by
  obtain ⟨u,S1,S2,h1,h2,h3,h4,rfl⟩:=h
  refine ⟨u,S1,S2,?_,Rep.frame hD hd v u S1 h2 (zQ hs (qU _ _)),RepRow.frame hD hd vs rd rd' (k+1) S2 h3 (zQ hs (yO _ _)) (fun j hk hj=>hr j (by omega) ?_),h4,rfl⟩
  ·rw [hr k (Nat.le_refl _) (by simp)]
   exact h1
  ·simp
   omega
theorem RepRows.frame {w w':World} {D D':CS} (hD:sub D D') (hd:sameOn w w' D):∀ (n b o:Nat) (rs:List (List V)) (k:Nat) (S:CS),RepRows w D n b o rs k S→sameOn w w' S →
  (∀ j,k * n≤j→j < (k+rs.length) * n→w'.cell? (ad b (o+j))=w.cell? (ad b (o+j)))→RepRows w' D' n b o rs k S
 | _,_,_,[],_,_,h,_,_=>h
 | n,b,o,r :: rs,k,S,h,hs,hr=>by
  obtain ⟨S1,S2,h1,h2,h3,h4,rfl⟩:=h
  have e1:(k+(r :: rs).length) * n=k * n+n+rs.length * n:=by
   rw [List.length_cons,Nat.add_mul,Nat.add_mul,Nat.one_mul]
   omega
  have e2:(k+1+rs.length) * n=k * n+n+rs.length * n:=by
   rw [Nat.add_mul,Nat.add_mul,Nat.one_mul]
  refine ⟨S1,S2,h1,RepRow.frame hD hd r _ _ 0 S1 h2 (zQ hs (qU _ _)) (fun j _ hj=>?_),RepRows.frame hD hd n b o rs (k+1) S2 h3 (zQ hs (yO _ _)) (fun j hk hj=>hr j ?_ ?_),h4,rfl⟩
  ·have hq:=hr (k * n+j) (by omega) (by rw [e1]; omega)
   show w'.cell? (ad b (o+k * n+j))=w.cell? (ad b (o+k * n+j))
   rw [Nat.add_assoc]
   exact hq
  ·rw [Nat.add_mul,Nat.one_mul] at hk
   omega
  ·rw [e1]
   rw [e2] at hj
   omega
end
end Go.TV
namespace Go.TV
abbrev zC1:=Nat×Nat×Nat
def V.rowAt:V→Nat→Nat→Option (List V)
 | .list true m rows,n,i=>if n=m then rows[i]? else none
 | .box true row,_,i=>if i=0 then some row else none
 | _,_,_=>none
def V.setRow:V→Nat→List V→V
 | .list own m rows,i,r=>.list own m (rows.set i r)
 | .box own _,_,r=>.box own r
 | v,_,_=>v
def V.get:V→List zC1→Option V
 | v,[]=>some v
 | v,(n,i,j) :: p=>(v.rowAt n i).bind fun r=>(r[j]?).bind fun x=>x.get p
def V.set:V→List zC1→V→V
 | _,[],y=>y
 | v,(n,i,j) :: p,y=>((v.rowAt n i).bind fun r=>(r[j]?).map fun x=>v.setRow i (r.set j (x.set p y))).getD v
def base:Value→Option Addr
 | .slice a _ _=>a
 | .pointer a=>a
 | _=>none
def loc (w:World):Value→List zC1→Option Value
 | u,[]=>some u
 | u,(n,i,j) :: p=>match base u with
  | some a=>match w.cell? (a.add (i * n+j)) with | some x=>loc w x p | none=>none
  | none=>none
theorem Rep.mono {w:World} {D D':CS} (hD:sub D D') {v:V} {u:Value} {S:CS} (h:Rep w D v u S):Rep w D' v u S:=
 Rep.frame hD (zH w D) v u S h (zH w S)
theorem Rep.keep {w w':World} {D D':CS} {v:V} {u:Value} {S:CS} (h:Rep w D v u S) (hD:sub D D') (hd:sameOn w w' D) (hs:sameOn w w' S):Rep w' D' v u S:=
 Rep.frame hD hd v u S h hs
theorem block_lt {w:World} {b o:Nat} {v:Value} (h:w.cell? (ad b o)=some v):b < w.heap.size:=by
 rcases Nat.lt_or_ge b w.heap.size with k | k
 ·exact k
 ·simp [World.cell?,ad,Array.getElem?_eq_none k] at h
theorem heap_lt {w:World} {b:Nat} {x:Obj} (h:w.heap[b]? = some x):b < w.heap.size:=by
 rcases Nat.lt_or_ge b w.heap.size with k | k
 ·exact k
 ·simp [Array.getElem?_eq_none k] at h
theorem Bld.lt {w:World} {t e:Nat} {s:ByteArray} {u:Value} {S:CS} (h:Bld w t e s u S):∀ b o,S b o→b < w.heap.size:=by
 obtain ⟨b,p,v,h1,h2,h3,h4,h5,h9,rfl⟩:=h
 rintro x y (rfl | hs)
 ·exact heap_lt h2
 ·exact (h4.lt x hs).2
mutual
theorem Rep.lt {w:World} {D:CS}:∀ (v:V) (u:Value) (S:CS),Rep w D v u S→∀ b o,S b o→b < w.heap.size
 | .sc _,_,_,h,_,_,hs=>by obtain ⟨_,_,rfl⟩:=h; exact hs.elim
 | .list own n rows,u,S,h,x,y,hs=>by
  rcases h with ⟨_,_,rfl⟩ | ⟨b,o,cap,S1,hu,hc,hr,hm⟩
  ·exact hs.elim
  ·cases own with
   | true =>
    obtain ⟨ho,_,rfl⟩:=hm
    rcases hs with ⟨rfl,h1,h2⟩ | hs
    ·obtain ⟨⟨v,hv⟩,hf⟩:=ho (y - o) (by omega)
     exact block_lt hv
    ·exact RepRows.lt n b o rows 0 S1 hr x y hs
   | false=>obtain ⟨_,rfl,_⟩:=hm; exact hs.elim
 | .box own row,u,S,h,x,y,hs=>by
  obtain ⟨b,o,S1,hu,hr,hm⟩:=h
  cases own with
  | true =>
   obtain ⟨ho,_,rfl⟩:=hm
   rcases hs with ⟨rfl,h1,h2⟩ | hs
   ·obtain ⟨⟨v,hv⟩,hf⟩:=ho (y - o) (by omega)
    exact block_lt hv
   ·exact RepRow.lt row _ 0 S1 hr x y hs
  | false=>obtain ⟨_,rfl,_⟩:=hm; exact hs.elim
 | .fn _ _,_,_,h,_,_,hs=>by obtain ⟨_,_,_,_,rfl⟩:=h; exact hs.elim
 | .bld _ _ _,_,_,h,x,y,hs=>Bld.lt h x y hs
 | .dead,_,_,h,_,_,hs=>by rw [show _=emp from h] at hs; exact hs.elim
theorem RepRow.lt {w:World} {D:CS}:∀ (vs:List V) (rd:Nat→Option Value) (k:Nat) (S:CS),RepRow w D rd vs k S→∀ b o,S b o→b < w.heap.size
 | [],_,_,_,h,_,_,hs=>by rw [show _=emp from h] at hs; exact hs.elim
 | v :: vs,rd,k,S,h,x,y,hs=>by
  obtain ⟨u,S1,S2,_,h2,h3,_,rfl⟩:=h
  rcases hs with hs | hs
  ·exact Rep.lt v u S1 h2 x y hs
  ·exact RepRow.lt vs rd (k+1) S2 h3 x y hs
theorem RepRows.lt {w:World} {D:CS}:∀ (n b o:Nat) (rs:List (List V)) (k:Nat) (S:CS),RepRows w D n b o rs k S→∀ b o,S b o→b < w.heap.size
 | _,_,_,[],_,_,h,_,_,hs=>by rw [show _=emp from h] at hs; exact hs.elim
 | n,b,o,r :: rs,k,S,h,x,y,hs=>by
  obtain ⟨S1,S2,_,h2,h3,_,rfl⟩:=h
  rcases hs with hs | hs
  ·exact RepRow.lt r _ 0 S1 h2 x y hs
  ·exact RepRows.lt n b o rs (k+1) S2 h3 x y hs
end
theorem RepRow.focus {w:World} {D:CS}:∀ (vs:List V) (rd:Nat→Option Value) (k:Nat) (S:CS) (j:Nat) (v:V),RepRow w D rd vs k S→vs[j]? = some v →
  ∃ u S1 G,rd (k+j)=some u∧Rep w D v u S1∧S=cup S1 G∧dj S1 G ∧
   ∀ (w':World) (D':CS) (rd':Nat→Option Value) (v':V) (u':Value) (S1':CS),sub D D'→sameOn w w' D→sameOn w w' G →
    (∀ m,m < vs.length→m≠j→rd' (k+m)=rd (k+m))→rd' (k+j)=some u'→Rep w' D' v' u' S1'→dj S1' G→RepRow w' D' rd' (vs.set j v') k (cup S1' G)
 | [],_,_,_,_,_,_,h=>by simp at h
 | x :: vs,rd,k,S,0,v,hr,hj=>by
  obtain ⟨u,S1,S2,h1,h2,h3,h4,rfl⟩:=hr
  simp only [List.getElem?_cons_zero,Option.some.injEq] at hj
  subst hj
  refine ⟨u,S1,S2,h1,h2,rfl,h4,fun w' D' rd' v' u' S1' hD hd hg hm hu hv hs=>?_⟩
  refine ⟨u',S1',S2,hu,hv,?_,hs,rfl⟩
  refine RepRow.frame hD hd vs rd rd' (k+1) S2 h3 hg (fun q hk hq=>?_)
  have:=hm (q - k) (by simp; omega) (by omega)
  rw [show k+(q - k)=q by omega] at this
  exact this
 | x :: vs,rd,k,S,j+1,v,hr,hj=>by
  obtain ⟨u,S1,S2,h1,h2,h3,h4,rfl⟩:=hr
  simp only [List.getElem?_cons_succ] at hj
  obtain ⟨u1,T1,G,e1,e2,rfl,e4,e5⟩:=RepRow.focus vs rd (k+1) S2 j v h3 hj
  refine ⟨u1,T1,cup S1 G,by rw [← e1]; congr 1; omega,e2,zA5 _ _ _,dj_cup (qL (dj_l h4)) e4,fun w' D' rd' v' u' S1' hD hd hg hm hu hv hs=>?_⟩
  refine ⟨u,S1,cup S1' G,?_,h2.keep hD hd (zQ hg (qU _ _)),?_,dj_cup (qL (dj_l hs)) (zE5 h4),zA5 _ _ _⟩
  ·have:=hm 0 (by simp) (by omega)
   simp only [Nat.add_zero] at this
   rw [this]
   exact h1
  ·refine e5 w' D' rd' v' u' S1' hD hd (zQ hg (yO _ _)) (fun m h1 h2=>?_) (by rw [← hu]; congr 1; omega) hv (zE5 hs)
   have:=hm (m+1) (by simp; omega) (by omega)
   rw [show k+1+m=k+(m+1) by omega]
   exact this
theorem RepRows.focus {w:World} {D:CS} {n b o:Nat}:∀ (rs:List (List V)) (k:Nat) (S:CS) (i:Nat) (r:List V),RepRows w D n b o rs k S→rs[i]? = some r →
  ∃ S1 G,r.length=n∧RepRow w D (rdm w b (o+(k+i) * n)) r 0 S1∧S=cup S1 G∧dj S1 G ∧
   ∀ (w':World) (D':CS) (r':List V) (S1':CS),sub D D'→sameOn w w' D→sameOn w w' G →
    (∀ m,k * n≤m→m < (k+rs.length) * n→(m < (k+i) * n∨(k+i+1) * n≤m)→w'.cell? (ad b (o+m))=w.cell? (ad b (o+m))) →
    r'.length=n→RepRow w' D' (rdm w' b (o+(k+i) * n)) r' 0 S1'→dj S1' G→RepRows w' D' n b o (rs.set i r') k (cup S1' G)
 | [],_,_,_,_,_,h=>by simp at h
 | x :: rs,k,S,0,r,hr,hi=>by
  obtain ⟨S1,S2,h1,h2,h3,h4,rfl⟩:=hr
  simp only [List.getElem?_cons_zero,Option.some.injEq] at hi
  subst hi
  refine ⟨S1,S2,h1,h2,rfl,h4,fun w' D' r' S1' hD hd hg hm hl hv hs=>?_⟩
  refine ⟨S1',S2,hl,hv,?_,hs,rfl⟩
  refine RepRows.frame hD hd n b o rs (k+1) S2 h3 hg (fun q hk hq=>?_)
  refine hm q ?_ ?_ (.inr hk)
  ·rw [Nat.add_mul,Nat.one_mul] at hk
   omega
  ·rw [List.length_cons,show k+(rs.length+1)=k+1+rs.length by omega]
   exact hq
 | x :: rs,k,S,i+1,r,hr,hi=>by
  obtain ⟨S1,S2,h1,h2,h3,h4,rfl⟩:=hr
  simp only [List.getElem?_cons_succ] at hi
  obtain ⟨T1,G,e1,e2,rfl,e4,e5⟩:=RepRows.focus rs (k+1) S2 i r h3 hi
  have ek:k+1+i=k+(i+1):=by omega
  rw [ek] at e2 e5
  refine ⟨T1,cup S1 G,e1,e2,zA5 _ _ _,dj_cup (qL (dj_l h4)) e4,fun w' D' r' S1' hD hd hg hm hl hv hs=>?_⟩
  have z1:(k+1) * n=k * n+n:=by rw [Nat.add_mul,Nat.one_mul]
  have z2:(k+(i+1)) * n=k * n+n+i * n:=by rw [Nat.add_mul,Nat.add_mul,Nat.one_mul]; omega
  have z3:(k+(x :: rs).length) * n=k * n+n+rs.length * n:=by rw [List.length_cons,Nat.add_mul,Nat.add_mul,Nat.one_mul]; omega
  have z4:(k+1+rs.length) * n=k * n+n+rs.length * n:=by rw [Nat.add_mul,Nat.add_mul,Nat.one_mul]
  refine ⟨S1,cup S1' G,h1,?_,?_,dj_cup (qL (dj_l hs)) (zE5 h4),zA5 _ _ _⟩
  ·refine RepRow.frame hD hd x _ _ 0 S1 h2 (zQ hg (qU _ _)) (fun q _ hq=>?_)
   have:=hm (k * n+q) (by omega) (by rw [z3]; omega) (.inl (by rw [z2]; omega))
   show w'.cell? (ad b (o+k * n+q))=w.cell? (ad b (o+k * n+q))
   rw [Nat.add_assoc]
   exact this
  ·refine e5 w' D' r' S1' hD hd (zQ hg (yO _ _)) (fun m h1 h2 h3=>hm m ?_ ?_ h3) hl hv (zE5 hs)
   ·rw [z1] at h1
    omega
   ·rw [z4] at h2
    rw [z3]
    omega
theorem Rep.row {w:World} {D:CS} {v:V} {u:Value} {S:CS} {n i:Nat} {r:List V} (h:Rep w D v u S) (hr:v.rowAt n i=some r) :
  ∃ b o Sr G,base u=some (ad b o)∧Rep w D (.box true r) (.pointer (some (ad b (o+i * n)))) Sr∧S=cup Sr G∧dj Sr G ∧
   ∀ (w':World) (D':CS) (r':List V) (Sr':CS),r'.length=r.length→sub D D'→sameOn w w' D→sameOn w w' G →
    Rep w' D' (.box true r') (.pointer (some (ad b (o+i * n)))) Sr'→dj Sr' G→Rep w' D' (v.setRow i r') u (cup Sr' G):=by
 cases v with
 | list own m rows =>
  cases own with
  | false=>simp [V.rowAt] at hr
  | true =>
   simp only [V.rowAt] at hr
   split at hr
   ·rename_i hm
    subst hm
    rcases h with ⟨rfl,_,_⟩ | ⟨b,o,cap,S1,hu,hc,hrs,ho,hj,rfl⟩
    ·simp at hr
    ·obtain ⟨T,G,e1,e2,rfl,e4,e5⟩:=RepRows.focus rows 0 S1 i r hrs hr
     simp only [Nat.zero_add] at e2 e5
     have hi:i < rows.length:=(List.getElem?_eq_some_iff.1 hr).1
     have hin:i * n+n≤rows.length * n:=by
      have:(i+1) * n≤rows.length * n:=Nat.mul_le_mul_right n hi
      rw [Nat.add_mul,Nat.one_mul] at this
      exact this
     have hcn:rows.length * n≤cap * n:=Nat.mul_le_mul_right n hc
     let out:CS:=fun x y=>rng b o (cap * n) x y∧¬rng b (o+i * n) n x y
     have hrn:rng b o (cap * n)=cup (rng b (o+i * n) n) out:=zF9 fun x y=>by
      simp only [cup,out,rng]
      omega
     refine ⟨b,o,cup (rng b (o+i * n) n) T,cup out G,by simp [hu,base],⟨b,o+i * n,T,rfl,e2,?_⟩,?_,?_,?_⟩
     ·rw [e1]
      refine ⟨fun k hk=>?_,?_,rfl⟩
      ·have:=ho (i * n+k) (by omega)
       rw [← Nat.add_assoc] at this
       exact this
      ·rw [hrn] at hj
       exact kG (dj_l hj)
     ·rw [hrn,kY,kY,zA5 out T G]
     ·rw [hrn] at hj
      refine qV (dj_cup ?_ (zE5 (kG hj))) (dj_cup (qL (dj_l (vZ hj))) e4)
      exact fun x y p q=>q.2 p
     ·intro w' D' r' Sr' hl hD hd hg hb hs
      obtain ⟨b',o',T',hp,hr',ho',hj',rfl⟩:=hb
      have hp':ad b (o+i * n)=ad b' o':=by injection hp with hp; injection hp
      have hb':b=b':=by injection hp'
      have hoo:o+i * n=o':=by injection hp'
      subst hb'
      subst hoo
      rw [hl,e1] at ho' hj' hs ⊢
      have hout:sameOn w w' out:=zQ hg (qU _ _)
      have cells:∀ m,m < cap * n→(m < i * n∨i * n+n≤m)→same w w' b (o+m):=fun m h1 h2=>by
       refine hout b (o+m) ⟨⟨rfl,by omega,by omega⟩,?_⟩
       rintro ⟨_,h3,h4⟩
       omega
      refine .inr ⟨b,o,cap,cup T' G,by rw [hu]; simp,by simp; omega,?_,?_,?_,?_⟩
      ·refine e5 w' D' r' T' hD hd (zQ hg (yO _ _)) (fun m _ h2 h3=>(cells m (by omega) ?_).1) (hl.trans e1) ?_ (zE5 (vZ hs))
       ·rw [Nat.add_mul,Nat.one_mul] at h3
        omega
       ·simpa using hr'
      ·intro k hk
       by_cases hin':i * n≤k∧k < i * n+n
       ·have:=ho' (k - i * n) (by omega)
        rw [show o+i * n+(k - i * n)=o+k by omega] at this
        exact this
       ·have h1:=ho k hk
        have h2:=cells k hk (by omega)
        rw [h2.1,h2.2]
        exact h1
      ·rw [hrn] at hj ⊢
       refine qV (dj_cup hj' (zE5 (kG hs))) (dj_cup (qL (dj_l (vZ hs))) (zE5 (vZ hj)))
      ·rw [hrn,kY,kY,zA5 out T' G]
   ·cases hr
 | box own row =>
  cases own with
  | false=>simp [V.rowAt] at hr
  | true =>
   simp only [V.rowAt] at hr
   split at hr
   ·rename_i hi
    subst hi
    injection hr with hr
    subst hr
    obtain ⟨b,o,S1,rfl,h2⟩:=h
    have e0:ad b (o+0 * n)=ad b o:=by rw [Nat.zero_mul,Nat.add_zero]
    refine ⟨b,o,S,emp,rfl,⟨b,o,S1,by rw [e0],h2⟩,(zV S).symm,qR S,fun w' D' r' Sr' _ _ _ _ hb _=>?_⟩
    rw [zV]
    rw [e0] at hb
    exact hb
   ·cases hr
 | sc _=>simp [V.rowAt] at hr
 | fn _ _=>simp [V.rowAt] at hr
 | bld _ _ _=>simp [V.rowAt] at hr
 | dead=>simp [V.rowAt] at hr
theorem Rep.cell {w:World} {D:CS} {r:List V} {b o:Nat} {S:CS} {j:Nat} {x:V} (h:Rep w D (.box true r) (.pointer (some (ad b o))) S) (hx:r[j]? = some x) :
  ∃ u Sx G,w.cell? (ad b (o+j))=some u∧w.frozen? (ad b (o+j))=false∧Rep w D x u Sx∧S=cup Sx G∧dj Sx G∧G b (o+j) ∧
   ∀ (w':World) (D':CS) (x':V) (u':Value) (Sx':CS),sub D D'→sameOn w w' D→(∀ b' o',G b' o'→(b'=b→o'=o+j→False)→same w w' b' o') →
    w'.cell? (ad b (o+j))=some u'→w'.frozen? (ad b (o+j))=false→Rep w' D' x' u' Sx'→dj Sx' G→Rep w' D' (.box true (r.set j x')) (.pointer (some (ad b o))) (cup Sx' G):=by
 obtain ⟨b',o',S1,hp,hr,ho,hj,rfl⟩:=h
 have hp':ad b o=ad b' o':=by injection hp with hp; injection hp
 have hb':b=b':=by injection hp'
 have hoo:o=o':=by injection hp'
 subst hb'
 subst hoo
 obtain ⟨u,T,G,e1,e2,rfl,e4,e5⟩:=RepRow.focus r _ 0 S1 j x hr hx
 simp only [Nat.zero_add] at e1 e5
 have hlt:j < r.length:=(List.getElem?_eq_some_iff.1 hx).1
 refine ⟨u,T,cup (rng b o r.length) G,e1,(ho j hlt).2,e2,zA5 _ _ _,dj_cup (qL (dj_l hj)) e4,.inl ⟨rfl,by omega,by omega⟩,?_⟩
 intro w' D' x' u' Sx' hD hd hg hu hf hv hs
 have cells:∀ m,m < r.length→m≠j→same w w' b (o+m):=fun m h1 h2=>hg b (o+m) (.inl ⟨rfl,by omega,by omega⟩) (fun _ h=>h2 (by omega))
 have hjG:¬G b (o+j):=fun hq=>hj b (o+j) ⟨rfl,by omega,by omega⟩ (.inr hq)
 refine ⟨b,o,cup Sx' G,rfl,?_,?_⟩
 ·refine e5 w' D' _ x' u' Sx' hD hd (fun b' o' hq=>hg b' o' (.inr hq) (fun h1 h2=>?_)) (fun m h1 h2=>(cells m h1 h2).1) hu hv (zE5 hs)
  subst h1
  subst h2
  exact hjG hq
 ·simp only [List.length_set]
  refine ⟨fun k hk=>?_,dj_cup (qL (dj_l hs)) (zE5 hj),zA5 _ _ _⟩
  by_cases e:k=j
  ·subst e
   exact ⟨⟨u',hu⟩,hf⟩
  ·have:=cells k hk e
   rw [this.1,this.2]
   exact ho k hk
end Go.TV
namespace Go.TV
theorem Rep.focus {w:World} {D:CS}:∀ (p:List zC1) (v:V) (u:Value) (S:CS) (x:V),Rep w D v u S→v.get p=some x →
  ∃ ux Sx G,loc w u p=some ux∧Rep w D x ux Sx∧S=cup Sx G∧dj Sx G ∧
   ∀ (w':World) (D':CS) (x':V) (Sx':CS),sub D D'→sameOn w w' D→sameOn w w' G→Rep w' D' x' ux Sx'→dj Sx' G →
    Rep w' D' (v.set p x') u (cup Sx' G)∧loc w' u p=some ux
 | [],v,u,S,x,h,hx=>by
  simp only [V.get,Option.some.injEq] at hx
  subst hx
  refine ⟨u,S,emp,rfl,h,(zV S).symm,qR S,fun w' D' x' Sx' _ _ _ hv _=>⟨?_,rfl⟩⟩
  rw [zV]
  exact hv
 | (n,i,j) :: p,v,u,S,x,h,hx=>by
  simp only [V.get] at hx
  obtain ⟨r,hr,hx⟩:=zbi hx
  obtain ⟨y,hy,hx⟩:=zbi hx
  obtain ⟨b,o,Sr,G,e1,e2,rfl,e4,e5⟩:=h.row hr
  obtain ⟨uy,Sy,G2,f1,f2,f3,rfl,f5,f6,f7⟩:=e2.cell hy
  obtain ⟨ux,Sx,G3,g1,g2,rfl,g4,g5⟩:=Rep.focus p y uy Sy x f3 hx
  have hcell:∀ w':World,w'.cell? (ad b (o+i * n+j))=some uy→∀ z,loc w' uy p=some z→loc w' u ((n,i,j) :: p)=some z:=fun w' hc z hz=>by
   simp only [loc,e1,zC0,← Nat.add_assoc,hc,hz]
  refine ⟨ux,Sx,cup G3 (cup G2 G),hcell w f1 ux g1,g2,?_,?_,fun w' D' x' Sx' hD hd hg hv hs=>?_⟩
  ·rw [kY,kY]
  ·exact dj_cup g4 (dj_cup (kG f5) (kG (kG e4)))
  ·obtain ⟨h1,h2⟩:=g5 w' D' x' Sx' hD hd (zQ hg (qU _ _)) hv (dj_l hs)
   have hc:same w w' b (o+i * n+j):=hg b _ (.inr (.inl f6))
   have hc1:=hc.1.trans f1
   have h3:=f7 w' D' (y.set p x') uy (cup Sx' G3) hD hd (fun b' o' q _=>hg b' o' (.inr (.inl q))) hc1 (hc.2.trans f2) h1 (qV (dj_l (zE5 hs)) (vZ f5))
   have h4:=e5 w' D' (r.set j (y.set p x')) (cup (cup Sx' G3) G2) (by simp) hD hd (fun b' o' q=>hg b' o' (.inr (.inr q))) h3 (qV (qV (zE5 (zE5 hs)) (vZ (kG e4))) (vZ e4))
   refine ⟨?_,hcell w' hc1 ux h2⟩
   simp only [V.set,hr,hy,Option.bind_some,Option.map_some,Option.getD_some]
   rw [kY,kY] at h4
   exact h4
theorem Rep.loc_keep {w w':World} {D:CS} {v:V} {u:Value} {S:CS} {p:List zC1} {x:V} (h:Rep w D v u S) (hx:v.get p=some x) (hd:sameOn w w' D) (hs:sameOn w w' S) :
  loc w' u p=loc w u p:=by
 obtain ⟨ux,Sx,G,e1,e2,rfl,e4,e5⟩:=h.focus p v u S x hx
 rw [e1]
 exact (e5 w' D x Sx (zD D) hd (zQ hs (yO _ _)) (e2.keep (zD D) hd (zQ hs (qU _ _))) e4).2
inductive C where
 | v (x:V)
 | ref (i:Nat) (p:List zC1)
 | part (i:Nat) (p:List zC1) (n lo hi:Nat)
 | addr (i:Nat) (p:List zC1) (n r j:Nat)
 | ba (row:List V)
 | dead
 deriving Inhabited
inductive Ag (α:Type) where
 | one (x:α)
 | agg (xs:List α)
 deriving Inhabited
inductive Sl where
 | pl (a:Ag C)
 | tup (as:List (Ag C))
 deriving Inhabited
structure Env where
 N:Nat
 np:Nat
 nx:Nat
 sl:List (Nat×Sl)
 ob:List (Nat×V)
def lk {α:Type} (t:Nat):List (Nat×α)→Option α
 | []=>none
 | (k,a) :: r=>if t=k then some a else lk t r
def zU {α:Type} (t:Nat) (x:α):List (Nat×α)→List (Nat×α)
 | []=>[]
 | (k,a) :: r=>if t=k then (k,x) :: r else (k,a) :: zU t x r
def zR {α:Type} (t:Nat):List (Nat×α)→List (Nat×α)
 | []=>[]
 | (k,a) :: r=>if t=k then r else (k,a) :: zR t r
def ObRep (w:World) (D:CS) (hs:Nat→Value):List (Nat×V)→CS→Prop
 | [],S=>S=emp
 | (i,v) :: r,S=>∃ S1 S2,lk i r=none∧Rep w D v (hs i) S1∧ObRep w D hs r S2∧dj S1 S2∧S=cup S1 S2
theorem ObRep.keep {w w':World} {D D':CS} {hs hs':Nat→Value} (hD:sub D D') (hd:sameOn w w' D):∀ (ob:List (Nat×V)) (S:CS),ObRep w D hs ob S→sameOn w w' S →
  (∀ i v,lk i ob=some v→hs' i=hs i)→ObRep w' D' hs' ob S
 | [],_,h,_,_=>h
 | (i,v) :: r,S,h,hs1,hh=>by
  obtain ⟨S1,S2,h0,h1,h2,h3,rfl⟩:=h
  refine ⟨S1,S2,h0,?_,ObRep.keep hD hd r S2 h2 (zQ hs1 (yO _ _)) (fun k x hk=>hh k x ?_),h3,rfl⟩
  ·rw [hh i v (by simp [lk])]
   exact h1.keep hD hd (zQ hs1 (qU _ _))
  ·simp only [lk]
   split
   ·rename_i e
    subst e
    rw [h0] at hk
    cases hk
   ·exact hk
theorem ObRep.focus {w:World} {D:CS} {hs:Nat→Value}:∀ (ob:List (Nat×V)) (S:CS) (i:Nat) (v:V),ObRep w D hs ob S→lk i ob=some v →
  ∃ S1 G,Rep w D v (hs i) S1∧S=cup S1 G∧dj S1 G∧ObRep w D hs (zR i ob) G ∧
   ∀ (w':World) (D':CS) (hs':Nat→Value) (v':V) (S1':CS),sub D D'→sameOn w w' D→sameOn w w' G→(∀ k x,k≠i→lk k ob=some x→hs' k=hs k) →
    Rep w' D' v' (hs' i) S1'→dj S1' G→ObRep w' D' hs' (zU i v' ob) (cup S1' G)
 | [],_,_,_,_,h=>by simp [lk] at h
 | (k,x) :: r,S,i,v,h,hi=>by
  obtain ⟨S1,S2,h0,h1,h2,h3,rfl⟩:=h
  simp only [lk] at hi
  split at hi
  ·rename_i e
   subst e
   injection hi with hi
   subst hi
   refine ⟨S1,S2,h1,rfl,h3,by simpa [zR] using h2,fun w' D' hs' v' S1' hD hd hg hh hv hj=>?_⟩
   simp only [zU,if_true]
   refine ⟨S1',S2,h0,hv,ObRep.keep hD hd r S2 h2 hg (fun m y hm=>hh m y ?_ ?_),hj,rfl⟩
   ·rintro rfl
    rw [h0] at hm
    cases hm
   ·simp only [lk]
    split
    ·rename_i e
     subst e
     rw [h0] at hm
     cases hm
    ·exact hm
  ·rename_i e
   obtain ⟨T,G,e1,rfl,e3,e4,e5⟩:=ObRep.focus r S2 i v h2 hi
   have lkd:∀ (r:List (Nat×V)),lk k r=none→lk k (zR i r)=none:=by
    intro r
    induction r with
    | nil=>intro h; exact h
    | cons y ys ih =>
     obtain ⟨m,z⟩:=y
     intro h
     simp only [lk] at h
     split at h
     ·cases h
     ·rename_i hkm
      simp only [zR]
      split
      ·exact h
      ·simp only [lk,if_neg hkm]
       exact ih h
   have lks:∀ (v':V) (r:List (Nat×V)),lk k r=none→lk k (zU i v' r)=none:=by
    intro v' r
    induction r with
    | nil=>intro h; exact h
    | cons y ys ih =>
     obtain ⟨m,z⟩:=y
     intro h
     simp only [lk] at h
     split at h
     ·cases h
     ·rename_i hkm
      simp only [zU]
      split
      ·simp only [lk,if_neg hkm]
       exact h
      ·simp only [lk,if_neg hkm]
       exact ih h
   refine ⟨T,cup S1 G,e1,zA5 _ _ _,dj_cup (qL (dj_l h3)) e3,?_,fun w' D' hs' v' S1' hD hd hg hh hv hj=>?_⟩
   ·simp only [zR,if_neg e]
    exact ⟨S1,G,lkd r h0,h1,e4,zE5 h3,rfl⟩
   ·simp only [zU,if_neg e]
    refine ⟨S1,cup S1' G,lks v' r h0,?_,e5 w' D' hs' v' S1' hD hd (zQ hg (yO _ _)) (fun m y hm hy=>hh m y hm ?_) hv (zE5 hj),dj_cup (qL (dj_l hj)) (zE5 h3),zA5 _ _ _⟩
    ·rw [hh k x (fun q=>e q.symm) (by simp [lk])]
     exact h1.keep hD hd (zQ hg (qU _ _))
    ·simp only [lk]
     split
     ·rename_i q
      subst q
      rw [h0] at hy
      cases hy
     ·exact hy
theorem ObRep.lt {w:World} {D:CS} {hs:Nat→Value}:∀ (ob:List (Nat×V)) (S:CS),ObRep w D hs ob S→∀ b o,S b o→b < w.heap.size
 | [],_,h,_,_,hs=>by rw [show _=emp from h] at hs; exact hs.elim
 | (i,v) :: r,S,h,b,o,hs1=>by
  obtain ⟨S1,S2,_,h1,h2,_,rfl⟩:=h
  rcases hs1 with q | q
  ·exact Rep.lt v _ S1 h1 b o q
  ·exact ObRep.lt r S2 h2 b o q
end Go.TV
namespace Go.TV
structure Frm (w w':World) (S:CS):Prop where
 os:w'.os=w.os
 tape:w'.tape=w.tape
 output:w'.output=w.output
 size:w.heap.size≤w'.heap.size
 blk:∀ k,k < w.heap.size→(∀ o,¬S k o)→w'.heap[k]? = w.heap[k]?
 cel:∀ b o,b < w.heap.size→¬S b o→same w w' b o
theorem Frm.refl (w:World) (S:CS):Frm w w S:=⟨rfl,rfl,rfl,Nat.le_refl _,fun _ _ _=>rfl,fun _ _ _ _=>same_refl w _ _⟩
theorem Frm.trans {w w1 w2:World} {S S1:CS} (h:Frm w w1 S) (k:Frm w1 w2 S1) (hs:∀ b o,S1 b o→S b o∨w.heap.size≤b):Frm w w2 S where
 os:=k.os.trans h.os
 tape:=k.tape.trans h.tape
 output:=k.output.trans h.output
 size:=Nat.le_trans h.size k.size
 blk:=fun b hb hn=>(k.blk b (Nat.lt_of_lt_of_le hb h.size) (fun o ho=>by rcases hs b o ho with q | q <;> first | exact hn o q | omega)).trans (h.blk b hb hn)
 cel:=fun b o hb hn=>by
  have h1:=h.cel b o hb hn
  have h2:=k.cel b o (Nat.lt_of_lt_of_le hb h.size) (fun ho=>by rcases hs b o ho with q | q <;> first | exact hn q | omega)
  exact ⟨h2.1.trans h1.1,h2.2.trans h1.2,h2.3.trans h1.3⟩
theorem Frm.sameOn {w w':World} {S T:CS} (h:Frm w w' S) (hj:dj T S) (hl:∀ b o,T b o→b < w.heap.size):sameOn w w' T:=
 fun b o p=>h.cel b o (hl b o p) (fun q=>hj b o p q)
def hdr:Value→Bool
 | .slice .. | .pointer (some _)=>true
 | _=>false
def Pth (w:World) (hs:Nat→Value) (ob:List (Nat×V)) (i:Nat) (p:List zC1) (φ:Value→Prop):Prop:=
 ∀ v x,lk i ob=some v→v.get p=some x→∃ u,loc w (hs i) p=some u∧hdr u=true∧φ u
def partV (n lo hi:Nat) (u0 u:Value):Prop:=∃ a len cap a' cap',u0=.slice a len cap∧lo≤hi∧hi≤len∧hi≤lo+cap'∧lo+cap'≤cap∧u=.slice a' (hi - lo) cap' ∧
 ((a=none∧a'=none∧cap'=0)∨∃ b o o',a=some (ad b o)∧a'=some (ad b o')∧(0 < cap'→o'=o+lo * n))
def addrV (n r j:Nat) (u0 u:Value):Prop:=∃ b o,base u0=some (ad b o)∧u=.pointer (some (ad b (o+r * n+j)))
def CRep (w:World) (D:CS) (hs:Nat→Value) (nx:Nat) (ob:List (Nat×V)):C→Value→Prop
 | .v x,u=>Rep w D x u emp
 | .ref i p,u=>i < nx∧Pth w hs ob i p (fun u0=>u0=u)
 | .part i p n lo hi,u=>i < nx∧Pth w hs ob i p (fun u0=>partV n lo hi u0 u)
 | .addr i p n r j,u=>i < nx∧Pth w hs ob i p (fun u0=>addrV n r j u0 u)
 | .ba row,u=>∃ b o,u=.pointer (some (ad b o))∧RepRow w D (rdm w b o) row 0 emp∧sub (rng b o row.length) D
 | .dead,_=>True
def CsRep (w:World) (D:CS) (hs:Nat→Value) (nx:Nat) (ob:List (Nat×V)):List C→List Value→Prop
 | [],us=>us=[]
 | c :: cs,us=>∃ u r,us=u :: r∧CRep w D hs nx ob c u∧CsRep w D hs nx ob cs r
def AgRep (w:World) (D:CS) (hs:Nat→Value) (nx:Nat) (ob:List (Nat×V)):Ag C→Value→Prop
 | .one c,u=>CRep w D hs nx ob c u
 | .agg cs,u=>∃ us:List Value,u=.agg us.toArray∧CsRep w D hs nx ob cs us
def AgsRep (w:World) (D:CS) (hs:Nat→Value) (nx:Nat) (ob:List (Nat×V)):List (Ag C)→List Value→Prop
 | [],us=>us=[]
 | c :: cs,us=>∃ u r,us=u :: r∧AgRep w D hs nx ob c u∧AgsRep w D hs nx ob cs r
def SlRep (w:World) (D:CS) (hs:Nat→Value) (nx:Nat) (ob:List (Nat×V)):Sl→Value→Prop
 | .pl a,u=>AgRep w D hs nx ob a u
 | .tup as,u=>∃ us:List Value,u=.tuple us.toArray∧AgsRep w D hs nx ob as us
abbrev GG:=Nat→Option (Obj→Prop)
def Glo (G:GG) (w:World) (S D:CS):Prop:=∀ b φ,G b=some φ→b < w.heap.size∧(∀ o,D b o)∧(∀ o,¬S b o)∧∃ x,w.heap[b]? = some x∧φ x
structure Ctx (G:GG) where
 w0:World
 S0:CS
 D0:CS
 h0:Nat→Value
structure StD {gG:GG} (c:Ctx gG) (e:Env) (a:Act) (w:World) (D:CS) (hs:Nat→Value) (S:CS):Prop where
 ob:ObRep w D hs e.ob S
 sl:∀ t s,lk t e.sl=some s→SlRep w D hs e.nx e.ob s (a.tmps.getD t undef)
 sz:a.tmps.size=e.N
 df:a.defers=[]
 dj:dj S D
 Dl:∀ b o,D b o→b < w.heap.size
 id:∀ i v,lk i e.ob=some v→i < e.nx
 npx:e.np≤e.nx
 hp:∀ i,i < e.np→hs i=c.h0 i
 fr:Frm c.w0 w c.S0
 Ss:∀ b o,S b o→c.S0 b o∨c.w0.heap.size≤b
 D0:sub c.D0 D
 Ds:∀ b o,D b o→c.D0 b o∨c.S0 b o∨c.w0.heap.size≤b
 gl:Glo gG c.w0 c.S0 c.D0
def St {gG:GG} (c:Ctx gG) (e:Env) (a:Act) (w:World):Prop:=∃ D hs S,StD c e a w D hs S
theorem Glo.mono {G:GG} {w:World} {S D S1 D1:CS} (h:Glo G w S D) (hs:sub S1 S) (hd:sub D D1):Glo G w S1 D1:=fun b φ q=>by
 obtain ⟨h0,h1,h2,h3⟩:=h b φ q
 exact ⟨h0,fun o=>hd b o (h1 o),fun o q=>h2 o (hs b o q),h3⟩
theorem StD.glo {gG:GG} {c:Ctx gG} {e:Env} {a:Act} {w:World} {D:CS} {hs:Nat→Value} {S:CS} (h:StD c e a w D hs S):Glo gG w S D:=fun b φ q=>by
 obtain ⟨h0,h1,h2,x,h3,h4⟩:=h.gl b φ q
 exact ⟨h.Dl b 0 (h.D0 b 0 (h1 0)),fun o=>h.D0 b o (h1 o),fun o k=>h.dj b o k (h.D0 b o (h1 o)),x,(h.fr.blk b h0 h2).trans h3,h4⟩
theorem ObRep.blt {w:World} {D:CS} {hs:Nat→Value} {ob:List (Nat×V)} {S:CS} (h:ObRep w D hs ob S):∀ b o,S b o→b < w.heap.size:=fun b o q=>by
 exact h.lt ob S b o q
def Kp (w w':World) (hs hs':Nat→Value) (ob ob':List (Nat×V)) (i:Nat) (p:List zC1):Prop:=
 ∀ v' x',lk i ob'=some v'→v'.get p=some x'→∃ v x,lk i ob=some v∧v.get p=some x∧∀ u,loc w (hs i) p=some u→hdr u=true→loc w' (hs' i) p=some u
theorem Pth.kp {w w':World} {hs hs':Nat→Value} {ob ob':List (Nat×V)} {i:Nat} {p:List zC1} {φ:Value→Prop} (h:Pth w hs ob i p φ) (k:Kp w w' hs hs' ob ob' i p):Pth w' hs' ob' i p φ:=
 fun v' x' h1 h2=>by
  obtain ⟨v,x,g1,g2,g3⟩:=k v' x' h1 h2
  obtain ⟨u,e1,eh,e2⟩:=h v x g1 g2
  exact ⟨u,g3 u e1 eh,eh,e2⟩
def KC (w w':World) (hs hs':Nat→Value) (nx:Nat) (ob ob':List (Nat×V)):C→Prop
 | .ref i p | .part i p _ _ _ | .addr i p _ _ _=>i < nx→Kp w w' hs hs' ob ob' i p
 | _=>True
theorem CRep.kc {w w':World} {D D':CS} {hs hs':Nat→Value} {nx nx':Nat} {ob ob':List (Nat×V)} (hD:sub D D') (hd:sameOn w w' D) (hn:nx≤nx') {c:C} {u:Value}
  (h:CRep w D hs nx ob c u) (k:KC w w' hs hs' nx ob ob' c):CRep w' D' hs' nx' ob' c u:=by
 cases c with
 | v x=>exact Rep.keep h hD hd (fun _ _ q=>q.elim)
 | ref i p=>exact ⟨Nat.lt_of_lt_of_le h.1 hn,h.2.kp (k h.1)⟩
 | part i p n lo hi=>exact ⟨Nat.lt_of_lt_of_le h.1 hn,h.2.kp (k h.1)⟩
 | addr i p n r j=>exact ⟨Nat.lt_of_lt_of_le h.1 hn,h.2.kp (k h.1)⟩
 | ba row =>
  obtain ⟨b,o,h1,h2,h3⟩:=h
  exact ⟨b,o,h1,RepRow.frame hD hd row _ _ 0 emp h2 (fun _ _ q=>q.elim) (fun j _ hj=>(hd b (o+j) (h3 b (o+j) ⟨rfl,by omega,by omega⟩)).1),zZ h3 hD⟩
 | dead=>trivial
def Sl.cells:Sl→List C
 | .pl (.one c)=>[c]
 | .pl (.agg cs)=>cs
 | .tup as=>as.flatMap fun | .one c=>[c] | .agg cs=>cs
theorem CsRep.kc {w w':World} {D D':CS} {hs hs':Nat→Value} {nx nx':Nat} {ob ob':List (Nat×V)} (hD:sub D D') (hd:sameOn w w' D) (hn:nx≤nx'):∀ (cs:List C) (us:List Value),
  CsRep w D hs nx ob cs us→(∀ c ∈ cs,KC w w' hs hs' nx ob ob' c)→CsRep w' D' hs' nx' ob' cs us
 | [],_,h,_=>h
 | c :: cs,us,h,k=>by
  obtain ⟨u,r,h1,h2,h3⟩:=h
  exact ⟨u,r,h1,h2.kc hD hd hn (k c (by simp)),CsRep.kc hD hd hn cs r h3 (fun x hx=>k x (by simp [hx]))⟩
theorem AgRep.kc {w w':World} {D D':CS} {hs hs':Nat→Value} {nx nx':Nat} {ob ob':List (Nat×V)} (hD:sub D D') (hd:sameOn w w' D) (hn:nx≤nx') (a:Ag C) (u:Value)
  (h:AgRep w D hs nx ob a u) (k:∀ c ∈ Sl.cells (.pl a),KC w w' hs hs' nx ob ob' c):AgRep w' D' hs' nx' ob' a u:=by
 cases a with
 | one c=>exact CRep.kc hD hd hn h (k c (by simp [Sl.cells]))
 | agg cs =>
  obtain ⟨us,h1,h2⟩:=h
  exact ⟨us,h1,CsRep.kc hD hd hn cs us h2 k⟩
theorem AgsRep.kc {w w':World} {D D':CS} {hs hs':Nat→Value} {nx nx':Nat} {ob ob':List (Nat×V)} (hD:sub D D') (hd:sameOn w w' D) (hn:nx≤nx'):∀ (as:List (Ag C)) (us:List Value),
  AgsRep w D hs nx ob as us→(∀ c ∈ Sl.cells (.tup as),KC w w' hs hs' nx ob ob' c)→AgsRep w' D' hs' nx' ob' as us
 | [],_,h,_=>h
 | a :: as,us,h,k=>by
  obtain ⟨u,r,h1,h2,h3⟩:=h
  refine ⟨u,r,h1,h2.kc hD hd hn a u (fun c hc=>k c ?_),AgsRep.kc hD hd hn as r h3 (fun c hc=>k c ?_)⟩
  ·cases a <;> simp only [Sl.cells,List.flatMap_cons,List.mem_append] at hc ⊢ <;> exact .inl hc
  ·simp only [Sl.cells,List.flatMap_cons,List.mem_append] at hc ⊢
   exact .inr hc
theorem SlRep.kc {w w':World} {D D':CS} {hs hs':Nat→Value} {nx nx':Nat} {ob ob':List (Nat×V)} (hD:sub D D') (hd:sameOn w w' D) (hn:nx≤nx') (s:Sl) (u:Value)
  (h:SlRep w D hs nx ob s u) (k:∀ c ∈ s.cells,KC w w' hs hs' nx ob ob' c):SlRep w' D' hs' nx' ob' s u:=by
 cases s with
 | pl a=>exact AgRep.kc hD hd hn a u h k
 | tup as =>
  obtain ⟨us,h1,h2⟩:=h
  exact ⟨us,h1,AgsRep.kc hD hd hn as us h2 k⟩
theorem Kp.same {w w':World} {D:CS} {hs hs':Nat→Value} {ob ob':List (Nat×V)} {S:CS} (ho:ObRep w D hs ob S) {i:Nat} (p:List zC1) (hi:lk i ob'=lk i ob) (hh:hs' i=hs i)
  (hd:sameOn w w' D) (hs1:∀ v S1 G,lk i ob=some v→Rep w D v (hs i) S1→S=cup S1 G→TV.dj S1 G→sameOn w w' S1):Kp w w' hs hs' ob ob' i p:=fun v x h1 h2=>by
 rw [hi] at h1
 obtain ⟨S1,G,e1,e2,e3,_,_⟩:=ho.focus ob S i v h1
 exact ⟨v,x,h1,h2,fun u hu _=>by rw [hh,e1.loc_keep h2 hd (hs1 v S1 G h1 e1 e2 e3)]; exact hu⟩
theorem zL {α:Type} (t k:Nat) (a:α) (r:List (Nat×α)):lk t ((k,a) :: r)=if t=k then some a else lk t r:=rfl
def Env.put (e:Env) (d:Nat) (s:Sl):Env:={e with sl:=(d,s) :: e.sl}
theorem StD.put {gG:GG} {c:Ctx gG} {e:Env} {a:Act} {w:World} {D:CS} {hs:Nat→Value} {S:CS} (h:StD c e a w D hs S) {d:Nat} {s:Sl} {u:Value} (hd:d < e.N) (hu:SlRep w D hs e.nx e.ob s u) :
  StD c (e.put d s) (a.put (some d) u) w D hs S where
 ob:=h.ob
 sl:=fun t s' ht=>by
  simp only [Env.put,zL] at ht
  have hsz:d < a.tmps.size:=by rw [h.sz]; exact hd
  split at ht
  ·rename_i e
   subst e
   injection ht with ht
   subst ht
   simp only [Act.put,Array.getD_eq_getD_getElem?]
   rw [Array.getElem?_setIfInBounds_self_of_lt hsz]
   exact hu
  ·rename_i ne
   simp only [Act.put,Array.getD_eq_getD_getElem?]
   rw [Array.getElem?_setIfInBounds_ne (fun q=>ne q.symm)]
   have:=h.sl t s' ht
   rwa [Array.getD_eq_getD_getElem?] at this
 sz:=by simp [Act.put,Env.put,h.sz]
 df:=h.df
 dj:=h.dj
 Dl:=h.Dl
 id:=h.id
 npx:=h.npx
 hp:=h.hp
 fr:=h.fr
 Ss:=h.Ss
 D0:=h.D0
 gl:=h.gl
 Ds:=h.Ds
theorem StD.world {gG:GG} {c:Ctx gG} {e:Env} {a:Act} {w w':World} {D:CS} {hs:Nat→Value} {S:CS} (h:StD c e a w D hs S) (hf:Frm w w' emp):StD c e a w' D hs S:=by
 have hS:TV.sameOn w w' S:=hf.sameOn (qR S) h.ob.blt
 have hD:TV.sameOn w w' D:=hf.sameOn (qR D) h.Dl
 exact {
  ob:=ObRep.keep (zD D) hD e.ob S h.ob hS (fun _ _ _=>rfl)
  sl:=fun t s ht=>(h.sl t s ht).kc (zD D) hD (Nat.le_refl _) s _ (fun c _=>by
   cases c <;> first | trivial | exact fun _=>Kp.same h.ob _ rfl rfl hD (fun v S1 G _ _ h2 _=>zQ hS (by rw [h2]; exact qU _ _)))
  sz:=h.sz
  df:=h.df
  dj:=h.dj
  Dl:=fun b o q=>Nat.lt_of_lt_of_le (h.Dl b o q) hf.size
  id:=h.id
  npx:=h.npx
  hp:=h.hp
  fr:=h.fr.trans hf (fun _ _ q=>q.elim)
  Ss:=h.Ss
  D0:=h.D0
  gl:=h.gl
  Ds:=h.Ds}
theorem StD.obj {gG:GG} {c:Ctx gG} {e:Env} {a:Act} {w:World} {D:CS} {hs:Nat→Value} {S:CS} (h:StD c e a w D hs S) {v:V} {u:Value} {S1:CS}
  (hv:Rep w D v u S1) (hj:TV.dj S1 S) (hjD:TV.dj S1 D) (h0:∀ b o,S1 b o→c.S0 b o∨c.w0.heap.size≤b) :
  StD c {e with nx:=e.nx+1,ob:=(e.nx,v) :: e.ob} a w D (fun i=>if i=e.nx then u else hs i) (cup S1 S):=by
 have hno:lk e.nx e.ob=none:=by
  cases q:lk e.nx e.ob with
  | none=>rfl
  | some x=>have:=h.id _ _ q; omega
 have hne:∀ i x,lk i e.ob=some x→i≠e.nx:=fun i x q r=>by rw [r,hno] at q; cases q
 have hD:=zH w D
 exact {
  ob:=⟨S1,S,hno,by simpa using hv,ObRep.keep (zD D) hD e.ob S h.ob (zH w S) (fun i x q=>by simp [hne i x q]),hj,rfl⟩
  sl:=fun t s ht=>by
   have q:=h.sl t s ht
   refine SlRep.kc (zD D) hD (by show e.nx≤e.nx+1; omega) s _ q (fun c _=>?_)
   cases c <;> first
    | trivial
    | exact fun hi=>Kp.same h.ob _ (by simp only [zL]; rw [if_neg (by omega)]) (by show (if _=e.nx then u else hs _)=_; rw [if_neg (by omega)]) hD (fun _ _ _ _ _ _ _=>zH _ _)
  sz:=h.sz
  df:=h.df
  dj:=qV hjD h.dj
  Dl:=h.Dl
  id:=fun i x q=>by
   simp only [zL] at q
   split at q
   ·show i < e.nx+1; omega
   ·have:=h.id i x q; show i < e.nx+1; omega
  npx:=Nat.le_succ_of_le h.npx
  hp:=fun i hi=>by
   have:=h.npx
   have hi':i < e.np:=hi
   simp only [show i≠e.nx by omega,if_false]
   exact h.hp i hi
  fr:=h.fr
  Ss:=fun b o q=>q.elim (h0 b o) (h.Ss b o)
  D0:=h.D0
  gl:=h.gl
  Ds:=h.Ds}
theorem zQ2 {α:Type} {i k:Nat} (hk:k≠i):∀ (ob:List (Nat×α)),lk k (zR i ob)=lk k ob
 | []=>rfl
 | (m,a) :: r=>by
  simp only [zR]
  split
  ·rename_i e
   subst e
   simp only [lk,if_neg hk]
  ·simp only [lk,zQ2 hk r]
theorem zB0 {α:Type} {i k:Nat} (hk:k≠i) (x:α):∀ (ob:List (Nat×α)),lk k (zU i x ob)=lk k ob
 | []=>rfl
 | (m,a) :: r=>by
  simp only [zU]
  split
  ·rename_i e
   subst e
   simp only [lk,if_neg hk]
  ·simp only [lk,zB0 hk x r]
theorem qL4 {α:Type} {i:Nat} {v:α} (x:α):∀ (ob:List (Nat×α)),lk i ob=some v→lk i (zU i x ob)=some x
 | [],h=>by cases h
 | (m,a) :: r,h=>by
  simp only [zU]
  split
  ·rename_i e
   simp only [lk,if_pos e]
  ·rename_i e
   simp only [lk,if_neg e] at h ⊢
   exact qL4 x r h
theorem ObRep.del {w:World} {D:CS} {hs:Nat→Value} {i:Nat}:∀ (ob:List (Nat×V)) (S:CS),ObRep w D hs ob S→lk i (zR i ob)=none
 | [],_,_=>rfl
 | (m,a) :: r,S,h=>by
  obtain ⟨S1,S2,h0,h1,h2,h3,rfl⟩:=h
  simp only [zR]
  split
  ·rename_i e
   subst e
   exact h0
  ·rename_i e
   simp only [lk,if_neg e]
   exact ObRep.del r S2 h2
theorem V.set_dead_get:∀ (p q:List zC1) (v y x':V),v.get p=some y→(v.set p .dead).get q=some x'→∃ x,v.get q=some x
 | [],[],v,y,_,_,_=>⟨v,rfl⟩
 | [],(_,_,_) :: _,_,_,_,_,h=>by simp [V.set,V.get,V.rowAt] at h
 | (_,_,_) :: _,[],v,_,_,_,_=>⟨v,rfl⟩
 | (n,i,j) :: p,(m,k,l) :: q,v,y,x',hy,h=>by
  simp only [V.get] at hy
  obtain ⟨r,hr,hy1⟩:=zbi hy
  obtain ⟨z,hz,hyz⟩:=zbi hy1
  clear hy hy1
  have hs:v.set ((n,i,j) :: p) .dead=v.setRow i (r.set j (z.set p .dead)):=by simp [V.set,hr,hz]
  rw [hs] at h
  simp only [V.get] at h ⊢
  obtain ⟨r',hr',h1⟩:=zbi h
  obtain ⟨z',hz',h2⟩:=zbi h1
  clear h h1
  have inner:∀ r0,r0=r→r'=r.set j (z.set p .dead)→∃ x,(r0[l]?.bind fun x=>x.get q)=some x:=by
   rintro r0 rfl rfl
   rw [List.getElem?_set] at hz'
   split at hz'
   ·rename_i e
    subst e
    split at hz'
    ·injection hz' with hz'
     subst hz'
     rw [hz]
     exact V.set_dead_get p q z y x' hyz h2
    ·cases hz'
   ·rw [hz']
    exact ⟨x',h2⟩
  cases v with
  | list own M rows =>
   cases own with
   | false=>simp [V.rowAt] at hr
   | true =>
    simp only [V.rowAt,V.setRow] at hr hr' ⊢
    split at hr'
    case isFalse=>cases hr'
    rename_i hm
    subst hm
    simp only [if_true]
    split at hr
    case isFalse=>cases hr
    rw [List.getElem?_set] at hr'
    split at hr'
    ·rename_i e
     subst e
     split at hr'
     ·injection hr' with hr'
      rw [hr]
      exact inner r rfl hr'.symm
     ·cases hr'
    ·rw [hr']
     simp only [Option.bind_some]
     rw [hz']
     exact ⟨x',h2⟩
  | box own row =>
   cases own with
   | false=>simp [V.rowAt] at hr
   | true =>
    simp only [V.rowAt,V.setRow] at hr hr' ⊢
    split at hr'
    case isFalse=>cases hr'
    rename_i hm
    simp only [if_pos hm]
    injection hr' with hr'
    split at hr
    case isFalse=>cases hr
    injection hr with hr
    simp only [Option.bind_some]
    exact inner row hr hr'.symm
  | sc _=>simp [V.rowAt] at hr
  | fn _ _=>simp [V.rowAt] at hr
  | bld _ _ _=>simp [V.rowAt] at hr
  | dead=>simp [V.rowAt] at hr
def Env.take (e:Env):C→Option (V×Env)
 | .v x=>some (x,e)
 | .ba row=>some (.box false row,e)
 | .ref i []=>(lk i e.ob).map fun v=>(v,{e with ob:=zR i e.ob})
 | .ref i (s :: p)=>(lk i e.ob).bind fun v=>(v.get (s :: p)).map fun x=>(x,{e with ob:=zU i (v.set (s :: p) .dead) e.ob})
 | _=>none
theorem StD.take {gG:GG} {c:Ctx gG} {e e':Env} {a:Act} {w:World} {D:CS} {hs:Nat→Value} {S:CS} (h:StD c e a w D hs S) {k:C} {x:V} {u:Value} (hk:e.take k=some (x,e')) (hu:CRep w D hs e.nx e.ob k u) :
  ∃ S1 S',Rep w D x u S1∧StD c e' a w D hs S'∧TV.dj S1 S'∧sub S1 S∧sub S' S∧e'.nx=e.nx∧e'.np=e.np∧e'.N=e.N ∧
   (∀ k' u',CRep w D hs e.nx e.ob k' u'→CRep w D hs e'.nx e'.ob k' u'):=by
 have hD:=zH w D
 cases k with
 | v y =>
  injection hk with hk
  injection hk with h1 h2
  subst h1
  subst h2
  exact ⟨emp,S,hu,h,zW S,fun _ _ q=>q.elim,zD S,rfl,rfl,rfl,fun _ _ q=>q⟩
 | ba row =>
  injection hk with hk
  injection hk with h1 h2
  subst h1
  subst h2
  obtain ⟨b,o,h1,h2,h3⟩:=hu
  exact ⟨emp,S,⟨b,o,emp,h1,h2,rfl,rfl,h3⟩,h,zW S,fun _ _ q=>q.elim,zD S,rfl,rfl,rfl,fun _ _ q=>q⟩
 | ref i p =>
  obtain ⟨hi,hp⟩:=hu
  cases p with
  | nil =>
   simp only [Env.take] at hk
   obtain ⟨v,h1,h2⟩:=Option.map_eq_some_iff.1 hk
   injection h2 with h2 h3
   subst h2
   subst h3
   obtain ⟨u0,g1,_,g2⟩:=hp v v h1 rfl
   injection g1 with g1
   subst g1
   subst g2
   obtain ⟨S1,G,e1,rfl,e3,e4,e5⟩:=h.ob.focus e.ob S i v h1
   have kk:∀ c',KC w w hs hs e.nx e.ob (zR i e.ob) c':=fun c'=>by
    have:∀ k q,Kp w w hs hs e.ob (zR i e.ob) k q:=fun k q v' x' r1 r2=>by
     by_cases hki:k=i
     ·subst hki
      rw [ObRep.del e.ob _ h.ob] at r1
      cases r1
     ·rw [zQ2 hki] at r1
      exact ⟨v',x',r1,r2,fun _ q _=>q⟩
    cases c' <;> first | trivial | exact fun _=>this _ _
   refine ⟨S1,G,e1,?_,e3,qU _ _,yO _ _,rfl,rfl,rfl,fun k' u' q=>q.kc (zD D) hD (Nat.le_refl _) (kk k')⟩
   exact {
    ob:=e4
    sl:=fun t s ht=>(h.sl t s ht).kc (zD D) hD (Nat.le_refl _) s _ (fun c' _=>kk c')
    sz:=h.sz
    df:=h.df
    dj:=vZ h.dj
    Dl:=h.Dl
    id:=fun k x q=>by
     by_cases hki:k=i
     ·subst hki
      rw [ObRep.del e.ob _ h.ob] at q
      cases q
     ·rw [zQ2 hki] at q
      exact h.id k x q
    npx:=h.npx
    hp:=h.hp
    fr:=h.fr
    Ss:=fun b o q=>h.Ss b o (.inr q)
    D0:=h.D0
    gl:=h.gl
    Ds:=h.Ds}
  | cons s p =>
   simp only [Env.take] at hk
   obtain ⟨v,h1,h2⟩:=zbi hk
   obtain ⟨y,h3,h2⟩:=Option.map_eq_some_iff.1 h2
   injection h2 with h2 h4
   subst h2
   subst h4
   obtain ⟨u0,g1,_,g2⟩:=hp v y h1 h3
   subst g2
   obtain ⟨S1,G,e1,rfl,e3,e4,e5⟩:=h.ob.focus e.ob S i v h1
   obtain ⟨u1,Sx,G2,f1,f2,rfl,f4,f5⟩:=e1.focus (s :: p) v _ _ y h3
   rw [g1] at f1
   injection f1 with f1
   subst f1
   obtain ⟨d1,_⟩:=f5 w D .dead emp (zD D) hD (zH w _) rfl (zW _)
   rw [jE] at d1
   have d2:=e5 w D hs (v.set (s :: p) .dead) G2 (zD D) hD (zH w _) (fun _ _ _ _=>rfl) d1 (vZ e3)
   have kk:∀ c',KC w w hs hs e.nx e.ob (zU i (v.set (s :: p) .dead) e.ob) c':=fun c'=>by
    have:∀ k q,Kp w w hs hs e.ob (zU i (v.set (s :: p) .dead) e.ob) k q:=fun k q v' x' r1 r2=>by
     by_cases hki:k=i
     ·subst hki
      rw [qL4 _ e.ob h1] at r1
      injection r1 with r1
      subst r1
      obtain ⟨x,hx⟩:=V.set_dead_get (s :: p) q v y x' h3 r2
      exact ⟨v,x,h1,hx,fun _ q _=>q⟩
     ·rw [zB0 hki] at r1
      exact ⟨v',x',r1,r2,fun _ q _=>q⟩
    cases c' <;> first | trivial | exact fun _=>this _ _
   refine ⟨Sx,cup G2 G,f2,?_,dj_cup f4 (kG e3),fun b o q=>.inl (.inl q),fun b o q=>q.elim (fun q=>.inl (.inr q)) .inr,rfl,rfl,rfl,fun k' u' q=>q.kc (zD D) hD (Nat.le_refl _) (kk k')⟩
   exact {
    ob:=d2
    sl:=fun t s ht=>(h.sl t s ht).kc (zD D) hD (Nat.le_refl _) s _ (fun c' _=>kk c')
    sz:=h.sz
    df:=h.df
    dj:=fun b o q r=>h.dj b o (q.elim (fun q=>.inl (.inr q)) .inr) r
    Dl:=h.Dl
    id:=fun k x q=>by
     by_cases hki:k=i
     ·subst hki
      exact h.id _ v h1
     ·rw [zB0 hki] at q
      exact h.id k x q
    npx:=h.npx
    hp:=h.hp
    fr:=h.fr
    Ss:=fun b o q=>h.Ss b o (q.elim (fun q=>.inl (.inr q)) .inr)
    D0:=h.D0
    gl:=h.gl
    Ds:=h.Ds}
 | _=>cases hk
end Go.TV
namespace Go.TV
inductive Kd where
 | bool | int (k:IntKind) | string | slice (e:Nat) | ptr (e:Nat) | struct (fs:List (Nat×Nat)) | other
structure TyI where
 size:Nat
 bytes:Nat
 kd:Kd
 z:List V
def KdOk:TypeDesc→Kd→Prop
 | .bool,.bool | .string,.string=>True
 | .int k,.int k'=>k=k'
 | .slice e,.slice e' | .pointer e,.ptr e'=>e=e'
 | .struct fs,.struct l=>fs.toList.map (fun f=>(f.offset,f.type))=l
 | .func ..,.other=>True
 | _,_=>False
def zv:V→Value
 | .sc v=>v
 | .list true _ []=>.slice none 0 0
 | _=>undef
def zok:V→Bool
 | .sc v=>plain v
 | .list true _ []=>true
 | _=>false
structure TyOk (P:Program) (t:Nat) (d:TyI):Prop where
 inf:∃ i,P.info? t=some i∧i.size=d.size∧i.bytes=d.bytes∧∃ z,i.zero=some z∧z.cells.toList=d.z.map zv
 und:∃ u,P.underlying t=some u∧KdOk u d.kd
 zo:d.z.all zok=true
 zl:d.z.length=d.size
structure Cfg where
 P:Program
 T:Nat→Option TyI
 hT:∀ t d,T t=some d→TyOk P t d
 mx:P.follows .mixedOrders=true
 G:GG:=fun _=>none
def Kd.agg:Kd→Bool
 | .struct _=>true
 | _=>false
section
variable {P:Program} {w:World}
theorem qL1 {t:Nat} {i:TypeInfo} (h:P.info? t=some i):(typeInfo t).run P w=.ok i w:=by simp [typeInfo,h]
theorem zD2 {t:Nat} {d:TyI} (h:TyOk P t d):(sizeOf t).run P w=.ok d.size w:=by
 obtain ⟨i,h1,h2,_⟩:=h.inf
 simp [sizeOf,qL1 h1,h2]
theorem qE1 {t:Nat} {d:TyI} (h:TyOk P t d):(isAgg t).run P w=.ok d.kd.agg w:=by
 obtain ⟨u,h1,h2⟩:=h.und
 cases hk:d.kd <;> rw [hk] at h2 <;> cases u <;> simp [KdOk] at h2 <;> simp [isAgg,run_underlying h1,Kd.agg]
theorem xC {t e:Nat} {d:TyI} (h:TyOk P t d) (hk:d.kd=.slice e):P.underlying t=some (.slice e):=by
 obtain ⟨u,h1,h2⟩:=h.und
 rw [hk] at h2
 cases u <;> simp [KdOk] at h2
 subst h2
 exact h1
theorem qZ {t:Nat} {d:TyI} (h:TyOk P t d) (hk:d.kd=.string):P.underlying t=some .string:=by
 obtain ⟨u,h1,h2⟩:=h.und
 rw [hk] at h2
 cases u <;> simp [KdOk] at h2
 exact h1
theorem qN3 {t:Nat} {d:TyI} (h:TyOk P t d) (hk:d.kd=.bool):P.underlying t=some .bool:=by
 obtain ⟨u,h1,h2⟩:=h.und
 rw [hk] at h2
 cases u <;> simp [KdOk] at h2
 exact h1
theorem zF1 {t:Nat} {k:IntKind} {d:TyI} (h:TyOk P t d) (hk:d.kd=.int k):P.underlying t=some (.int k):=by
 obtain ⟨u,h1,h2⟩:=h.und
 rw [hk] at h2
 cases u <;> simp [KdOk] at h2
 subst h2
 exact h1
theorem zF6 {t:Nat} {l:List (Nat×Nat)} {d:TyI} (h:TyOk P t d) (hk:d.kd=.struct l) :
  ∃ fs:Array Field,P.underlying t=some (.struct fs)∧fs.toList.map (fun f=>(f.offset,f.type))=l:=by
 obtain ⟨u,h1,h2⟩:=h.und
 rw [hk] at h2
 cases u <;> simp [KdOk] at h2
 exact ⟨_,h1,by simpa using h2⟩
end
def qJ:Value→Option C
 | .slice none 0 0=>some (.v (.list true 1 []))
 | v=>if plain v=true then some (.v (.sc v)) else none
def qN:Value→Option Sl
 | .agg cs=>(cs.toList.mapM qJ).map fun l=>.pl (.agg l)
 | v=>(qJ v).map fun c=>.pl (.one c)
def Env.val (e:Env):Operand→Option Sl
 | .tmp t=>lk t e.sl
 | .const v=>qN v
 | .func f=>some (.pl (.one (.v (.fn f []))))
 | .global _=>none
theorem constC_ok {w:World} {D:CS} {hs:Nat→Value} {nx:Nat} {ob:List (Nat×V)} {v:Value} {c:C} (h:qJ v=some c):CRep w D hs nx ob c v:=by
 unfold qJ at h
 split at h
 ·injection h with h
  subst h
  exact .inl ⟨rfl,.inl rfl,rfl⟩
 ·split at h
  ·rename_i hp
   injection h with h
   subst h
   exact ⟨rfl,hp,rfl⟩
  ·cases h
theorem constCs_ok {w:World} {D:CS} {hs:Nat→Value} {nx:Nat} {ob:List (Nat×V)}:∀ (vs:List Value) (cs:List C),vs.mapM qJ=some cs→CsRep w D hs nx ob cs vs
 | [],cs,h=>by
  simp at h
  subst h
  rfl
 | v :: vs,cs,h=>by
  simp only [List.mapM_cons,Option.bind_eq_bind,Option.pure_def] at h
  obtain ⟨c,h1,h⟩:=zbi h
  obtain ⟨r,h2,h⟩:=zbi h
  injection h with h
  subst h
  exact ⟨v,vs,rfl,constC_ok h1,constCs_ok vs r h2⟩
theorem constS_ok {w:World} {D:CS} {hs:Nat→Value} {nx:Nat} {ob:List (Nat×V)} {v:Value} {s:Sl} (h:qN v=some s):SlRep w D hs nx ob s v:=by
 unfold qN at h
 split at h
 ·rename_i cs
  obtain ⟨l,h1,rfl⟩:=Option.map_eq_some_iff.1 h
  exact ⟨cs.toList,by simp,constCs_ok _ _ h1⟩
 ·obtain ⟨c,h1,rfl⟩:=Option.map_eq_some_iff.1 h
  exact constC_ok h1
section
variable {gG:GG} {c:Ctx gG} {e:Env} {a:Act} {w:World} {D:CS} {hs:Nat→Value} {S:CS}
theorem StD.val (h:StD c e a w D hs S) {x:Operand} {s:Sl} (hx:e.val x=some s):SlRep w D hs e.nx e.ob s (a.eval x):=by
 cases x with
 | tmp t=>exact h.sl t s hx
 | const v=>exact constS_ok hx
 | func f =>
  injection hx with hx
  subst hx
  exact ⟨#[],rfl,rfl,rfl,rfl⟩
 | global g=>cases hx
def Did (P:Program) {gG:GG} (c:Ctx gG) (o:Oper) (a:Act) (w:World) (e':Env):Prop:=
 ∃ u w',((execOp a.eval o).run P w=.ok (.value u) w'∨((execOp a.eval o).run P w=.ok .skip w'∧u=undef))∧St c e' (a.put o.dst u) w'
def Env.putO (e:Env) (d:Option Nat) (s:Sl):Option Env:=
 match d with
 | some d=>if d < e.N then some (e.put d s) else none
 | none=>some e
theorem StD.putO (h:StD c e a w D hs S) {d:Option Nat} {s:Sl} {u:Value} {e':Env} (he:e.putO d s=some e') (hu:SlRep w D hs e.nx e.ob s u):StD c e' (a.put d u) w D hs S:=by
 cases d with
 | none =>
  injection he with he
  subst he
  exact h
 | some d =>
  simp only [Env.putO] at he
  split at he
  ·injection he with he
   subst he
   exact h.put ‹_› hu
  ·cases he
theorem StD.did (h:StD c e a w D hs S) {P:Program} {o:Oper} {s:Sl} {u:Value} {e':Env} (hr:(execOp a.eval o).run P w=.ok (.value u) w) (he:e.putO o.dst s=some e') (hu:SlRep w D hs e.nx e.ob s u) :
  Did P c o a w e':=⟨u,w,.inl hr,D,hs,S,h.putO he hu⟩
end
end Go.TV
namespace Go.TV
def bt (s:ByteArray) (k:Nat):Int:=((s.data.getD k 0).toNat:Int)
def binI (op:BinOp) (k:IntKind) (x y:Int):Option Value:=
 match op with
 | .add=>some (.int k (k.wrap (x+y)))
 | .sub=>some (.int k (k.wrap (x - y)))
 | .mul=>some (.int k (k.wrap (x * y)))
 | .quo=>if y=0 then none else some (.int k (k.wrap (x.tdiv y)))
 | .rem=>if y=0 then none else some (.int k (x.tmod y))
 | .and=>some (.int k (bits .and k x y))
 | .or=>some (.int k (bits .or k x y))
 | .xor=>some (.int k (bits .xor k x y))
 | .andNot=>some (.int k (bits .andNot k x y))
 | .eql=>some (.bool (x == y))
 | .neq=>some (.bool (x != y))
 | .lss=>some (.bool (decide (x < y)))
 | .leq=>some (.bool (decide (x≤y)))
 | .gtr=>some (.bool (decide (x > y)))
 | .geq=>some (.bool (decide (x≥y)))
 | .shl=>if y < 0 then none else some (.int k (k.wrap (x * 2 ^ min y.toNat k.bits)))
 | .shr=>if y < 0 then none else some (.int k (x / 2 ^ min y.toNat k.bits))
def binS (op:BinOp) (x y:ByteArray):Option Value:=
 match op with
 | .add=>if x.size+y.size≤4611686018427387904 then some (.string (x++y)) else none
 | .eql=>some (.bool (x.toList == y.toList))
 | .neq=>some (.bool !(x.toList == y.toList))
 | .lss=>some (.bool (Op.bytesLess x.toList y.toList))
 | .leq=>some (.bool (Op.bytesLess x.toList y.toList || x.toList == y.toList))
 | .gtr=>some (.bool !(Op.bytesLess x.toList y.toList || x.toList == y.toList))
 | .geq=>some (.bool !(Op.bytesLess x.toList y.toList))
 | _=>none
def uX (op:BinOp) (bool:Bool) (x y:Value):Option Value:=
 match x,y with
 | .int k a,.int k' b=>if k=k'∨op=.shl∨op=.shr then binI op k a b else none
 | .string a,.string b=>binS op a b
 | .bool a,.bool b=>if bool=true then (match op with | .eql=>some (.bool (a == b)) | .neq=>some (.bool (a != b)) | _=>none) else none
 | _,_=>none
theorem binI_plain {op:BinOp} {k:IntKind} {x y:Int} {v:Value} (h:binI op k x y=some v):plain v=true:=by
 cases op <;> simp only [binI] at h <;> (try split at h) <;> (first | (injection h with h; subst h; rfl) | cases h)
theorem binS_plain {op:BinOp} {x y:ByteArray} {v:Value} (h:binS op x y=some v):plain v=true:=by
 cases op <;> simp only [binS] at h <;> (try split at h) <;> (first | (injection h with h; subst h; rfl) | cases h)
theorem binV_plain {op:BinOp} {b:Bool} {x y v:Value} (h:uX op b x y=some v):plain v=true:=by
 unfold uX at h
 split at h
 ·split at h
  ·exact binI_plain h
  ·cases h
 ·exact binS_plain h
 ·split at h
  ·split at h <;> (first | (injection h with h; subst h; rfl) | cases h)
  ·cases h
 ·cases h
section
variable {P:Program} {w:World}
theorem run_binI {op:BinOp} {k k':IntKind} {t:Nat} {x y:Int} {v:Value} {o1 o2:Operand} (hk:k=k'∨op=.shl∨op=.shr) (h:binI op k x y=some v) :
  (do eqGuard op t o1 o2 (.int k x) (.int k' y); binOp op t (.int k x) (.int k' y):Sem Value).run P w=.ok v w:=by
 have hg:eqGuard op t o1 o2 (.int k x) (.int k' y)=pure ():=eqGuard_at_int ..
 rw [hg]
 cases op <;> simp only [binI,reduceCtorEq,or_false] at h hk
 case shl =>
  split at h
  ·cases h
  ·rename_i hy
   injection h with h
   subst h
   simp [binOp,Op.shift,hy]
 case shr =>
  split at h
  ·cases h
  ·rename_i hy
   injection h with h
   subst h
   have:x.fdiv (2 ^ min y.toNat k.bits)=x / 2 ^ min y.toNat k.bits:=Int.fdiv_eq_ediv_of_nonneg _ (Int.pow_nonneg (by omega))
   simp [binOp,Op.shift,hy,this]
 case quo =>
  subst hk
  split at h
  ·cases h
  ·rename_i hy
   injection h with h
   subst h
   simp [binOp,Op.intDiv,hy]
 case rem =>
  subst hk
  split at h
  ·cases h
  ·rename_i hy
   injection h with h
   subst h
   simp [binOp,Op.intDiv,hy]
 all_goals
  subst hk
  injection h with h
  subst h
  simp [binOp,Op.intArith,Op.intBits,Op.intCmp,bits]
theorem run_binS {op:BinOp} {t:Nat} {x y:ByteArray} {v:Value} {o1 o2:Operand} (h:binS op x y=some v) :
  (do eqGuard op t o1 o2 (.string x) (.string y); binOp op t (.string x) (.string y):Sem Value).run P w=.ok v w:=by
 have hg:eqGuard op t o1 o2 (.string x) (.string y)=pure ():=eqGuard_at_string ..
 rw [hg]
 cases op <;> simp only [binS] at h <;> (try split at h) <;> (first | cases h; done | (injection h with h; subst h)) <;> simp [binOp,Op.stringOp]
 omega
theorem run_binB {op:BinOp} {t:Nat} {d:TyI} {x y:Bool} {v:Value} {o1 o2:Operand} (ht:TyOk P t d) (hd:d.kd=.bool)
  (h:(match op with | .eql=>some (.bool (x == y)) | .neq=>some (.bool (x != y)) | _=>none)=some v) :
  (do eqGuard op t o1 o2 (.bool x) (.bool y); binOp op t (.bool x) (.bool y):Sem Value).run P w=.ok v w:=by
 have hg:eqGuard op t o1 o2 (.bool x) (.bool y)=pure ():=eqGuard_at_bool ..
 have hu:=run_underlying (qN3 ht hd) w
 have he:(Op.equal t (.bool x) (.bool y)).run P w=.ok (x == y) w:=by
  unfold Op.equal
  show (Op.equalIn (9999+1) t (.bool x) (.bool y)).run P w=_
  rw [Op.equalIn]
  simp [hu]
 rw [hg]
 cases op <;> simp only at h <;> (first | cases h; done | (injection h with h; subst h))
 ·show ((do pure (Value.bool (← Op.equal t (.bool x) (.bool y))):Sem Value)).run P w=_
  simp [he]
 ·show ((do pure (Value.bool (!(← Op.equal t (.bool x) (.bool y)))):Sem Value)).run P w=_
  simp [he]
  cases x <;> cases y <;> rfl
end
def unV (op:UnOp) (x:Value):Option Value:=
 match op,x with
 | .neg,.int k n=>some (.int k (k.wrap (0 - n)))
 | .not,.bool b=>some (.bool !b)
 | .xor,.int k n=>some (.int k (bits .xor k (if k.signed then -1 else k.max) n))
 | _,_=>none
theorem run_un {P:Program} {w:World} {op:UnOp} {x v:Value} (h:unV op x=some v):(Op.unary op x).run P w=.ok v w∧plain v=true:=by
 unfold unV at h
 split at h <;> (first | cases h; done | (injection h with h; subst h)) <;> simp [Op.unary,Op.intArith,Op.intBits,bits,plain]
end Go.TV
namespace Go.TV
theorem loc_append {w:World}:∀ (p q:List zC1) (u x:Value),loc w u p=some x→loc w u (p++q)=loc w x q
 | [],_,_,_,h=>by
  injection h with h
  subst h
  rfl
 | (n,i,j) :: p,q,u,x,h=>by
  simp only [List.cons_append,loc] at h ⊢
  cases hb:base u with
  | none=>simp [hb] at h
  | some a =>
   simp only [hb] at h ⊢
   cases hc:w.cell? (a.add (i * n+j)) with
   | none=>simp [hc] at h
   | some y =>
    simp only [hc] at h ⊢
    exact loc_append p q y x h
def vP (i:Nat) (p:List zC1):V→Option C
 | .sc v=>some (.v (.sc v))
 | .list true _ _=>some (.ref i p)
 | .list false n rows=>some (.v (.list false n rows))
 | .box true _=>some (.ref i p)
 | .box false row=>some (.v (.box false row))
 | .fn f caps=>some (.v (.fn f caps))
 | .bld _ _ _=>none
 | .dead=>none
section
variable {gG:GG} {c:Ctx gG} {e:Env} {a:Act} {w:World} {D:CS} {hs:Nat→Value} {S:CS}
theorem StD.node (h:StD c e a w D hs S) {i:Nat} {p:List zC1} {v x:V} (hi:lk i e.ob=some v) (hx:v.get p=some x) :
  ∃ u Sx,loc w (hs i) p=some u∧Rep w D x u Sx∧sub Sx S:=by
 obtain ⟨S1,G,e1,rfl,_⟩:=h.ob.focus e.ob S i v hi
 obtain ⟨u,Sx,G',g1,g2,rfl,_⟩:=e1.focus p v _ _ x hx
 exact ⟨u,Sx,g1,g2,fun _ _ q=>.inl (.inl q)⟩
theorem cell_rep (h:StD c e a w D hs S) {i:Nat} {p:List zC1} {v y:V} {u uy:Value} {n r j:Nat} {b o:Nat} {x:V} {row:List V} {Sy:CS} (hi:lk i e.ob=some v) (hx:v.get p=some x)
  (hr:x.rowAt n r=some row) (hy:row[j]? = some y) (hl:loc w (hs i) p=some u) (hb:base u=some (ad b o)) (hc:w.cell? (ad b (o+r * n+j))=some uy) (hv:Rep w D y uy Sy) {k:C}
  (hk:vP i (p++[(n,r,j)]) y=some k):CRep w D hs e.nx e.ob k uy:=by
 have href:hdr uy=true→CRep w D hs e.nx e.ob (.ref i (p++[(n,r,j)])) uy:=fun hh=>by
  refine ⟨h.id i v hi,fun v' x' h1 h2=>⟨uy,?_,hh,rfl⟩⟩
  rw [loc_append p _ (hs i) u hl]
  simp only [loc,hb,zC0,← Nat.add_assoc,hc]
 cases y with
 | sc _=>injection hk with hk; subst hk; obtain ⟨h1,h2,h3⟩:=hv; exact ⟨h1,h2,rfl⟩
 | list own m rows =>
  cases own with
  | true=>injection hk with hk; subst hk; exact href (by rcases hv with ⟨_,q,_⟩ | ⟨_,_,_,_,rfl,_⟩ <;> first | (rw [yT q]; rfl) | rfl)
  | false =>
   injection hk with hk
   subst hk
   rcases hv with ⟨h1,h2,_⟩ | ⟨b,o,cap,S1,h1,h2,h3,h4,h5,h6⟩
   ·exact .inl ⟨h1,h2,rfl⟩
   ·exact .inr ⟨b,o,cap,S1,h1,h2,h3,h4,rfl,h6⟩
 | box own row =>
  cases own with
  | true=>injection hk with hk; subst hk; exact href (by obtain ⟨_,_,_,rfl,_⟩:=hv; rfl)
  | false =>
   injection hk with hk
   subst hk
   obtain ⟨b,o,S1,h1,h3,h4,h5,h6⟩:=hv
   exact ⟨b,o,S1,h1,h3,h4,rfl,h6⟩
 | fn f caps =>
  injection hk with hk
  subst hk
  obtain ⟨us,h1,h2,h3,_⟩:=hv
  exact ⟨us,h1,h2,h3,rfl⟩
 | bld _ _ _=>cases hk
 | dead=>cases hk
def cellsOf (i:Nat) (p:List zC1) (m r:Nat) (row:List V):Nat→Nat→Option (List C)
 | _,0=>some []
 | j,n+1=>(row[j]?).bind fun y=>(vP i (p++[(m,r,j)]) y).bind fun k=>(cellsOf i p m r row (j+1) n).map fun l=>k :: l
theorem cells_rep (h:StD c e a w D hs S) {i:Nat} {p:List zC1} {v:V} {n r:Nat} {x:V} {row:List V} (hi:lk i e.ob=some v) (hx:v.get p=some x) (hr:x.rowAt n r=some row) :
  ∃ u b o,loc w (hs i) p=some u∧base u=some (ad b o)∧∀ (m j:Nat) (l:List C),cellsOf i p n r row j m=some l →
   ∃ us:List Value,us.length=m∧(∀ k y,us[k]? = some y→w.cell? (ad b (o+r * n+j+k))=some y)∧CsRep w D hs e.nx e.ob l us:=by
 obtain ⟨u,Sx,g1,g2,_⟩:=h.node hi hx
 obtain ⟨b,o,Sr,G,e1,e2,rfl,e4,_⟩:=g2.row hr
 refine ⟨u,b,o,g1,e1,fun m=>?_⟩
 induction m with
 | zero =>
  intro j l hl
  injection hl with hl
  subst hl
  exact ⟨[],rfl,fun k y hk=>by simp at hk,rfl⟩
 | succ m ih =>
  intro j l hl
  simp only [cellsOf] at hl
  obtain ⟨y,hy,hl⟩:=zbi hl
  obtain ⟨k,hk,hl⟩:=zbi hl
  obtain ⟨l',hl',rfl⟩:=Option.map_eq_some_iff.1 hl
  obtain ⟨us,f1,f2,f3⟩:=ih (j+1) l' hl'
  obtain ⟨uy,Sy,G2,d1,d2,d3,_⟩:=e2.cell hy
  refine ⟨uy :: us,by simp [f1],fun q z hq=>?_,uy,us,rfl,cell_rep h hi hx hr hy g1 e1 d1 d3 hk,f3⟩
  cases q with
  | zero =>
   simp only [List.getElem?_cons_zero,Option.some.injEq] at hq
   subst hq
   exact d1
  | succ q =>
   simp only [List.getElem?_cons_succ] at hq
   have:=f2 q z hq
   rw [show o+r * n+j+(q+1)=o+r * n+(j+1)+q by omega]
   exact this
theorem ba_rep {w:World} {D:CS} {hs:Nat→Value} {nx:Nat} {ob:List (Nat×V)}:∀ (row:List V) (rd:Nat→Option Value) (k n:Nat),RepRow w D rd row k emp→n≤row.length →
  ∃ us:List Value,us.length=n∧(∀ q y,us[q]? = some y→rd (k+q)=some y)∧CsRep w D hs nx ob ((row.take n).map C.v) us
 | _,_,_,0,_,_=>⟨[],rfl,fun q y hq=>by simp at hq,rfl⟩
 | [],_,_,n+1,_,h=>by simp at h
 | v :: row,rd,k,n+1,h,hn=>by
  obtain ⟨u,S1,S2,h1,h2,h3,h4,h5⟩:=h
  have e1:S1=emp:=zF9 fun x y=>⟨fun q=>by rw [h5]; exact .inl q,fun q=>q.elim⟩
  have e2:S2=emp:=zF9 fun x y=>⟨fun q=>by rw [h5]; exact .inr q,fun q=>q.elim⟩
  subst e1
  subst e2
  obtain ⟨us,f1,f2,f3⟩:=ba_rep (hs:=hs) (nx:=nx) (ob:=ob) row rd (k+1) n h3 (by simpa using hn)
  refine ⟨u :: us,by simp [f1],fun q y hq=>?_,u,us,rfl,h2,f3⟩
  cases q with
  | zero =>
   simp only [List.getElem?_cons_zero,Option.some.injEq] at hq
   subst hq
   exact h1
  | succ q =>
   simp only [List.getElem?_cons_succ] at hq
   have:=f2 q y hq
   rw [show k+(q+1)=k+1+q by omega]
   exact this
theorem qI3 {P:Program} {t:Nat} {d:TyI} (ht:TyOk P t d) (hk:d.kd.agg=true) {b o:Nat} {us:List Value} (hl:us.length=d.size) (hc:∀ k y,us[k]? = some y→w.cell? (ad b (o+k))=some y) :
  (Instr.loadAt t (.pointer (some (ad b o)))).run P w=.ok (.agg us.toArray) w:=by
 have:=run_loadCells_list (P:=P) w (ad b o) us (fun k v q=>by rw [zC0]; exact hc k v q)
 simp [Instr.loadAt,Instr.sureAddr,loadVar,qE1 ht,zD2 ht,hk,← hl,this]
theorem qI4 {P:Program} {t:Nat} {d:TyI} (ht:TyOk P t d) (hk:d.kd.agg=false) {b o:Nat} {u:Value} (hc:w.cell? (ad b o)=some u) :
  (Instr.loadAt t (.pointer (some (ad b o)))).run P w=.ok u w:=by
 simp [Instr.loadAt,Instr.sureAddr,loadVar,qE1 ht,hk,load,Sem.run,hc]
def Env.behind (e:Env) (k:C) (n:Nat):Option (List C):=
 match k with
 | .addr i p m r j=>(lk i e.ob).bind fun v=>(v.get p).bind fun x=>(x.rowAt m r).bind fun row=>cellsOf i p m r row j n
 | .ref i p=>(lk i e.ob).bind fun v=>(v.get p).bind fun x=>match x with
  | .box true row=>cellsOf i p 0 0 row 0 n
  | _=>none
 | .ba row=>if n≤row.length then some ((row.take n).map C.v) else none
 | .v (.box false row)=>if n≤row.length then some ((row.take n).map C.v) else none
 | _=>none
theorem StD.behind (h:StD c e a w D hs S) {k:C} {n:Nat} {l:List C} {u:Value} (hk:e.behind k n=some l) (hu:CRep w D hs e.nx e.ob k u) :
  ∃ b o us,u=.pointer (some (ad b o))∧us.length=n∧(∀ k y,us[k]? = some y→w.cell? (ad b (o+k))=some y)∧CsRep w D hs e.nx e.ob l us:=by
 cases k with
 | addr i p m r j =>
  simp only [Env.behind] at hk
  obtain ⟨v,h1,hk⟩:=zbi hk
  obtain ⟨x,h2,hk⟩:=zbi hk
  obtain ⟨row,h3,hk⟩:=zbi hk
  obtain ⟨u0,b,o,g1,g2,g3⟩:=cells_rep h h1 h2 h3
  obtain ⟨us,f1,f2,f3⟩:=g3 n j l hk
  obtain ⟨_,hp⟩:=hu
  obtain ⟨u1,d1,_,b',o',d2,d3⟩:=hp v x h1 h2
  rw [g1] at d1
  injection d1 with d1
  subst d1
  rw [g2] at d2
  injection d2 with d2
  have eb:b=b':=by injection d2
  have eo:o=o':=by injection d2
  subst eb
  subst eo
  exact ⟨b,o+r * m+j,us,d3,f1,f2,f3⟩
 | ref i p =>
  simp only [Env.behind] at hk
  obtain ⟨v,h1,hk⟩:=zbi hk
  obtain ⟨x,h2,hk⟩:=zbi hk
  split at hk
  ·rename_i row
   obtain ⟨u0,b,o,g1,g2,g3⟩:=cells_rep h h1 h2 (n:=0) (r:=0) (row:=row) (by simp [V.rowAt])
   obtain ⟨us,f1,f2,f3⟩:=g3 n 0 l hk
   obtain ⟨_,hp⟩:=hu
   obtain ⟨u1,d1,_,d2⟩:=hp v _ h1 h2
   rw [g1] at d1
   injection d1 with d1
   subst d1
   subst d2
   obtain ⟨u2,Sx,k1,k2,_⟩:=h.node h1 h2
   rw [g1] at k1
   injection k1 with k1
   subst k1
   obtain ⟨b',o',_,rfl,_⟩:=k2
   simp only [base,Option.some.injEq] at g2
   rw [g2]
   exact ⟨b,o,us,rfl,f1,by simpa using f2,f3⟩
  ·cases hk
 | ba row =>
  simp only [Env.behind] at hk
  split at hk
  ·rename_i hn
   injection hk with hk
   subst hk
   obtain ⟨b,o,h1,h2,_⟩:=hu
   obtain ⟨us,f1,f2,f3⟩:=ba_rep (hs:=hs) (nx:=e.nx) (ob:=e.ob) row _ 0 n h2 hn
   exact ⟨b,o,us,h1,f1,fun k y q=>by have:=f2 k y q; simpa [rdm] using this,f3⟩
  ·cases hk
 | v y =>
  cases y with
  | box own row =>
   cases own with
   | false =>
    simp only [Env.behind] at hk
    split at hk
    ·rename_i hn
     injection hk with hk
     subst hk
     obtain ⟨b,o,S1,h1,h2,rfl,_⟩:=hu
     obtain ⟨us,f1,f2,f3⟩:=ba_rep (hs:=hs) (nx:=e.nx) (ob:=e.ob) row _ 0 n h2 hn
     exact ⟨b,o,us,h1,f1,fun k y q=>by have:=f2 k y q; simpa [rdm] using this,f3⟩
    ·cases hk
   | true=>cases hk
  | _=>cases hk
 | _=>cases hk
end
end Go.TV
namespace Go.TV
def Env.sc (e:Env) (x:Operand):Option Value:=
 match e.val x with
 | some (.pl (.one (.v (.sc v))))=>some v
 | _=>none
def Env.cl (e:Env) (x:Operand):Option C:=
 match e.val x with
 | some (.pl (.one k))=>some k
 | _=>none
def kU (T:Nat→Option TyI) (t:Nat):Bool:=match T t with | some ⟨_,_,.bool,_⟩=>true | _=>false
section
variable {gG:GG} {c:Ctx gG} {e:Env} {a:Act} {w:World} {D:CS} {hs:Nat→Value} {S:CS}
theorem StD.sc (h:StD c e a w D hs S) {x:Operand} {v:Value} (hx:e.sc x=some v):a.eval x=v∧plain v=true:=by
 unfold Env.sc at hx
 split at hx
 ·rename_i v' hv
  injection hx with hx
  subst hx
  have:=h.val hv
  exact ⟨this.1,this.2.1⟩
 ·cases hx
theorem StD.cl (h:StD c e a w D hs S) {x:Operand} {k:C} (hx:e.cl x=some k):CRep w D hs e.nx e.ob k (a.eval x):=by
 unfold Env.cl at hx
 split at hx
 ·rename_i v' hv
  injection hx with hx
  subst hx
  exact h.val hv
 ·cases hx
theorem xT {v:Value} (hv:plain v=true):SlRep w D hs e.nx e.ob (.pl (.one (.v (.sc v)))) v:=⟨rfl,hv,rfl⟩
end
def xD (o:Oper) (x:Operand) (e:Env):Option Env:=(e.val x).bind fun s=>e.putO o.dst s
def jB (o:Oper) (x:Operand) (e:Env):Option Env:=(e.val x).bind fun s=>match s with
 | .pl (.one (.v (.list true n [])))=>({e with nx:=e.nx+1,ob:=(e.nx,.list true n []) :: e.ob}:Env).putO o.dst (.pl (.one (.ref e.nx [])))
 | s=>e.putO o.dst s
def xV (o:Oper) (k x y:Operand) (e:Env):Option Env:=(e.sc k).bind fun
 | .bool t=>if t=true then (e.val x).bind fun s=>e.putO o.dst s else (e.val y).bind fun s=>e.putO o.dst s
 | _=>none
def wF (T:Nat→Option TyI) (o:Oper) (op:BinOp) (t:Nat) (x y:Operand) (e:Env):Option Env:=
 (e.sc x).bind fun u=>(e.sc y).bind fun v=>(uX op (kU T t) u v).bind fun r=>e.putO o.dst (.pl (.one (.v (.sc r))))
def zA7 (o:Oper) (op:UnOp) (x:Operand) (e:Env):Option Env:=(e.sc x).bind fun u=>(unV op u).bind fun r=>e.putO o.dst (.pl (.one (.v (.sc r))))
def qP (o:Oper) (x:Operand) (i:Nat) (e:Env):Option Env:=(e.val x).bind fun
 | .tup as=>(as[i]?).bind fun s=>e.putO o.dst (.pl s)
 | _=>none
def Env.sure (e:Env):C→Bool
 | .addr i p n r j=>((lk i e.ob).bind fun v=>v.get p).isSome
 | .ba _ | .v (.box false _) | .v (.fn _ _)=>true
 | .ref i p=>match (lk i e.ob).bind fun v=>v.get p with | some (.box true _)=>true | _=>false
 | _=>false
def wH (o:Oper) (x:Operand) (e:Env):Option Env:=(e.cl x).bind fun k=>if e.sure k=true then e.putO o.dst (.pl (.one k)) else none
def zX (T:Nat→Option TyI) (o:Oper) (t:Nat) (x:Operand) (f:Nat) (e:Env):Option Env:=
 (T t).bind fun d=>match d.kd with
  | .struct fs=>(fs[f]?).bind fun q=>(T q.2).bind fun df=>if df.size=0 then none else (e.cl x).bind fun k=>if e.sure k=true then match k with
   | .addr i p n r j=>e.putO o.dst (.pl (.one (.addr i p n r (j+q.1))))
   | .ref i p=>(match (lk i e.ob).bind fun v=>v.get p with | some (.box true _)=>e.putO o.dst (.pl (.one (.addr i p 0 0 q.1))) | _=>none)
   | .ba row=>if q.1≤row.length then e.putO o.dst (.pl (.one (.ba (row.drop q.1)))) else none
   | .v (.box false row)=>if q.1≤row.length then e.putO o.dst (.pl (.one (.ba (row.drop q.1)))) else none
   | _=>none else none
  | _=>none
def xU (T:Nat→Option TyI) (o:Oper) (t:Nat) (x:Operand) (e:Env):Option Env:=
 (T t).bind fun d=>(e.cl x).bind fun k=>if e.sure k=true then (e.behind k d.size).bind fun l=>match d.kd with
  | .struct _=>e.putO o.dst (.pl (.agg l))
  | _=>(match l with | [q]=>e.putO o.dst (.pl (.one q)) | _=>none) else none
theorem RepRow.drop' {w:World} {D:CS}:∀ (n:Nat) (row:List V) (rd:Nat→Option Value) (k:Nat),RepRow w D rd row k emp→n≤row.length→RepRow w D rd (row.drop n) (k+n) emp
 | 0,_,_,_,h,_=>by simpa using h
 | n+1,[],_,_,_,h=>by simp at h
 | n+1,v :: row,rd,k,h,hn=>by
  obtain ⟨u,S1,S2,h1,h2,h3,h4,h5⟩:=h
  have e2:S2=emp:=zF9 fun x y=>⟨fun q=>by rw [h5]; exact .inr q,fun q=>q.elim⟩
  subst e2
  have:=RepRow.drop' n row rd (k+1) h3 (by simpa using hn)
  rw [show k+(n+1)=k+1+n by omega]
  simpa using this
theorem RepRow.shift {w:World} {D:CS}:∀ (row:List V) (rd rd':Nat→Option Value) (k k':Nat) (S:CS),RepRow w D rd row k S→(∀ q,q < row.length→rd' (k'+q)=rd (k+q))→RepRow w D rd' row k' S
 | [],_,_,_,_,_,h,_=>h
 | v :: row,rd,rd',k,k',S,h,hq=>by
  obtain ⟨u,S1,S2,h1,h2,h3,h4,h5⟩:=h
  refine ⟨u,S1,S2,by have:=hq 0 (by simp); simp only [Nat.add_zero] at this; rw [this]; exact h1,h2,RepRow.shift row rd rd' (k+1) (k'+1) S2 h3 (fun q hl=>?_),h4,h5⟩
  have:=hq (q+1) (by simp; omega)
  rw [show k'+1+q=k'+(q+1) by omega,show k+1+q=k+(q+1) by omega]
  exact this
theorem RepRow.drop {w:World} {D:CS} {row:List V} {b o n:Nat} (h:RepRow w D (rdm w b o) row 0 emp) (hn:n≤row.length):RepRow w D (rdm w b (o+n)) (row.drop n) 0 emp:=
 RepRow.shift _ _ _ (0+n) 0 emp (RepRow.drop' n row _ 0 h hn) (fun q _=>by simp only [rdm]; congr 2; omega)
theorem qJ0 {α:Type} {row:List α} {b o n:Nat} (hn:n≤row.length):sub (rng b (o+n) (row.drop n).length) (rng b o row.length):=by
 rintro x y ⟨h1,h2,h3⟩
 simp only [List.length_drop] at h3
 exact ⟨h1,by omega,by omega⟩
section
variable {gG:GG} {c:Ctx gG} {e e':Env} {a:Act} {w:World} {D:CS} {hs:Nat→Value} {S:CS} {X:Cfg} {o:Oper}
theorem evMove_ok (h:StD c e a w D hs S) {x:Operand} (ho:o.op=.move x) (he:xD o x e=some e'):Did X.P c o a w e':=by
 obtain ⟨s,h1,h2⟩:=zbi he
 exact h.did (by simp [execOp,ho]) h2 (h.val h1)
theorem evAssign_ok (h:StD c e a w D hs S) {x:Operand} (ho:o.op=.assign x) (he:jB o x e=some e'):Did X.P c o a w e':=by
 obtain ⟨s,h1,h2⟩:=zbi he
 have hr:(execOp a.eval o).run X.P w=.ok (.value (a.eval x)) w:=by simp [execOp,ho]
 split at h2
 ·rename_i n
  have hv:=h.val h1
  have hv':Rep w D (.list true n []) (a.eval x) emp:=hv
  have h':=h.obj hv' (zW S) (zW D) (fun _ _ q=>q.elim)
  have hn:lk e.nx e.ob=none:=by
   cases q:lk e.nx e.ob with
   | none=>rfl
   | some z=>have:=h.id _ _ q; omega
  refine ⟨a.eval x,w,.inl hr,D,_,_,h'.putO h2 ⟨Nat.lt_succ_self _,fun v x hv hx=>?_⟩⟩
  simp only [zL,if_true] at hv
  injection hv with hv
  subst hv
  exact ⟨_,rfl,by simp only [if_true]; rcases hv' with ⟨_,q,_⟩ | ⟨_,_,_,_,q,_⟩ <;> first | (rw [yT q]; rfl) | (rw [q]; rfl),by simp⟩
 ·exact h.did hr h2 (h.val h1)
theorem evPick_ok (h:StD c e a w D hs S) {k x y:Operand} (ho:o.op=.pick k x y) (he:xV o k x y e=some e'):Did X.P c o a w e':=by
 obtain ⟨s,h1,h2⟩:=zbi he
 obtain ⟨g1,g2⟩:=h.sc h1
 cases s with
 | bool t =>
  simp only at h2
  split at h2
  ·rename_i ht
   subst ht
   obtain ⟨s,h3,h4⟩:=zbi h2
   exact h.did (by simp [execOp,ho,g1,asBool]) h4 (h.val h3)
  ·rename_i ht
   have ht:t=false:=by simpa using ht
   subst ht
   obtain ⟨s,h3,h4⟩:=zbi h2
   exact h.did (by simp [execOp,ho,g1,asBool]) h4 (h.val h3)
 | _=>cases h2
theorem evBin_ok (h:StD c e a w D hs S) {op:BinOp} {t t':Nat} {x y:Operand} (ho:o.op=.binOp op t x y t') (he:wF X.T o op t x y e=some e'):Did X.P c o a w e':=by
 obtain ⟨u,h1,h2⟩:=zbi he
 obtain ⟨v,h3,h4⟩:=zbi h2
 obtain ⟨r,h5,h6⟩:=zbi h4
 obtain ⟨g1,_⟩:=h.sc h1
 obtain ⟨g3,_⟩:=h.sc h3
 have hr:(do eqGuard op t x y (a.eval x) (a.eval y); binOp op t (a.eval x) (a.eval y):Sem Value).run X.P w=.ok r w:=by
  rw [g1,g3]
  unfold uX at h5
  split at h5
  ·split at h5
   ·exact run_binI ‹_› h5
   ·cases h5
  ·exact run_binS h5
  ·split at h5
   ·rename_i hb
    unfold kU at hb
    split at hb
    ·rename_i hT
     exact run_binB (X.hT _ _ hT) rfl h5
    ·cases hb
   ·cases h5
  ·cases h5
 refine h.did ?_ h6 (xT (binV_plain h5))
 have:execOp a.eval o=(do pure (.value (← (do eqGuard op t x y (a.eval x) (a.eval y); binOp op t (a.eval x) (a.eval y):Sem Value)))):=by simp only [execOp,ho]
 rw [this,Sem.run_bind,hr]
 rfl
theorem evUn_ok (h:StD c e a w D hs S) {op:UnOp} {t:Nat} {x:Operand} (ho:o.op=.unOp op t x) (he:zA7 o op x e=some e'):Did X.P c o a w e':=by
 obtain ⟨u,h1,h2⟩:=zbi he
 obtain ⟨r,h5,h6⟩:=zbi h2
 obtain ⟨g1,_⟩:=h.sc h1
 obtain ⟨k1,k2⟩:=run_un (P:=X.P) (w:=w) h5
 exact h.did (by simp [execOp,ho,g1,k1]) h6 (xT k2)
theorem AgsRep.get {nx:Nat} {ob:List (Nat×V)}:∀ (as:List (Ag C)) (us:List Value) (i:Nat) (s:Ag C),AgsRep w D hs nx ob as us→as[i]? = some s→∃ u,us[i]? = some u∧AgRep w D hs nx ob s u
 | [],_,_,_,_,h=>by simp at h
 | x :: as,us,0,s,h,hi=>by
  obtain ⟨u,r,rfl,h1,_⟩:=h
  simp at hi
  subst hi
  exact ⟨u,rfl,h1⟩
 | x :: as,us,i+1,s,h,hi=>by
  obtain ⟨u,r,rfl,_,h2⟩:=h
  simp at hi
  obtain ⟨z,k1,k2⟩:=AgsRep.get as r i s h2 hi
  exact ⟨z,by simpa using k1,k2⟩
theorem evExtract_ok (h:StD c e a w D hs S) {x:Operand} {i:Nat} (ho:o.op=.extract x i) (he:qP o x i e=some e'):Did X.P c o a w e':=by
 obtain ⟨s,h1,h2⟩:=zbi he
 have hv:=h.val h1
 cases s with
 | tup as =>
  obtain ⟨us,h3,h4⟩:=hv
  obtain ⟨s,h5,h6⟩:=zbi h2
  obtain ⟨u,k1,k2⟩:=AgsRep.get as us i s h4 h5
  refine h.did (u:=u) ?_ h6 k2
  have:(us.toArray)[i]? = some u:=by simpa using k1
  simp [execOp,ho,h3,Instr.extract,this]
 | pl _=>cases h2
theorem StD.sure (h:StD c e a w D hs S) {k:C} {u:Value} (hk:e.sure k=true) (hu:CRep w D hs e.nx e.ob k u):(∃ b o,u=.pointer (some (ad b o)))∨∃ f us,u=.func (.func f) #[] us:=by
 cases k with
 | addr i p n r j =>
  simp only [Env.sure,Option.isSome_iff_exists] at hk
  obtain ⟨x,hx⟩:=hk
  obtain ⟨v,h1,h2⟩:=zbi hx
  obtain ⟨_,_,_,b,o,h4,h5⟩:=hu.2 v x h1 h2
  exact .inl ⟨_,_,h5⟩
 | ba row =>
  obtain ⟨b,o,h1,_⟩:=hu
  exact .inl ⟨b,o,h1⟩
 | v y =>
  cases y with
  | box own row =>
   obtain ⟨b,o,_,h1,_⟩:=hu
   exact .inl ⟨b,o,h1⟩
  | fn f caps =>
   obtain ⟨us,h1,_⟩:=hu
   exact .inr ⟨f,us,h1⟩
  | _=>cases hk
 | ref i p =>
  simp only [Env.sure] at hk
  split at hk
  ·rename_i row hx
   obtain ⟨v,h1,h2⟩:=zbi hx
   obtain ⟨u1,k1,_,k2⟩:=hu.2 v _ h1 h2
   obtain ⟨u2,Sx,k3,k4,_⟩:=h.node h1 h2
   rw [k1] at k3
   injection k3 with k3
   subst k3
   subst k2
   obtain ⟨b,o,_,h5,_⟩:=k4
   exact .inl ⟨b,o,h5⟩
  ·cases hk
 | _=>cases hk
theorem evNil_ok (h:StD c e a w D hs S) {x:Operand} (ho:o.op=.nilCheck x) (he:wH o x e=some e'):Did X.P c o a w e':=by
 obtain ⟨k,h1,h2⟩:=zbi he
 split at h2
 ·rename_i hs1
  have hv:=h.cl h1
  refine h.did (u:=a.eval x) ?_ h2 hv
  rcases h.sure hs1 hv with ⟨b,o,hu⟩ | ⟨f,us,hu⟩ <;> simp [execOp,ho,hu]
 ·cases h2
theorem evFieldAddr_ok (h:StD c e a w D hs S) {t f:Nat} {x:Operand} (ho:o.op=.fieldAddr t x f) (he:zX X.T o t x f e=some e'):Did X.P c o a w e':=by
 obtain ⟨d,h1,h2⟩:=zbi he
 split at h2
 ·rename_i fs hk
  obtain ⟨q,h3,h2⟩:=zbi h2
  obtain ⟨df,h4,h2⟩:=zbi h2
  split at h2
  ·cases h2
  ·rename_i hz
   obtain ⟨k,h5,h2⟩:=zbi h2
   have hv:=h.cl h5
   obtain ⟨FS,hu,hfs⟩:=zF6 (X.hT _ _ h1) hk
   subst hfs
   obtain ⟨F,hF,hq⟩:∃ F,FS[f]? = some F∧(F.offset,F.type)=q:=by
    rw [List.getElem?_map,Array.getElem?_toList] at h3
    obtain ⟨F,k1,k2⟩:=Option.map_eq_some_iff.1 h3
    exact ⟨F,k1,k2⟩
   subst hq
   have run:∀ b o',a.eval x=.pointer (some (ad b o'))→(execOp a.eval o).run X.P w=.ok (.value (.pointer (some (ad b (o'+F.offset))))) w:=fun b o' hp=>by
    simp [execOp,ho,hp,Instr.fieldAt,run_underlying hu,hF,Instr.sureAddr,fieldPlace,zD2 (X.hT _ _ h4),hz,zC0]
   split at h2
   case isFalse=>cases h2
   rename_i hsure
   split at h2
   ·rename_i i p n r j
    obtain ⟨hi,hp⟩:=hv
    simp only [Env.sure,Option.isSome_iff_exists] at hsure
    obtain ⟨y,hy⟩:=hsure
    obtain ⟨v,k1,k2⟩:=zbi hy
    obtain ⟨u1,g1,gh,b,o1,g2,g3⟩:=hp v y k1 k2
    refine h.did (run b _ g3) h2 ⟨hi,fun v' y' k1' k2'=>?_⟩
    obtain ⟨u2,g1',_,b',o',g2',g3'⟩:=hp v' y' k1' k2'
    rw [g1] at g1'
    injection g1' with g1'
    subst g1'
    exact ⟨u1,g1,gh,b,o1,g2,by rw [Nat.add_assoc]⟩
   ·rename_i i p
    obtain ⟨hi,hp⟩:=hv
    split at h2
    ·rename_i row hx
     obtain ⟨v,k1,k2⟩:=zbi hx
     obtain ⟨u1,g1,gh,rfl⟩:=hp v _ k1 k2
     obtain ⟨u2,Sx,k3,k4,_⟩:=h.node k1 k2
     rw [g1] at k3
     injection k3 with k3
     subst k3
     obtain ⟨b,o1,_,g3,_⟩:=k4
     refine h.did (run b o1 g3) h2 ⟨hi,fun v' y' k1' k2'=>?_⟩
     rw [k1] at k1'
     injection k1' with k1'
     subst k1'
     exact ⟨_,g1,gh,b,o1,by rw [g3]; rfl,by simp⟩
    ·cases h2
   ·rename_i row
    split at h2
    ·rename_i hl
     obtain ⟨b,o1,g1,g2,g3⟩:=hv
     refine h.did (run b o1 g1) h2 ⟨b,o1+F.offset,rfl,RepRow.drop g2 hl,?_⟩
     exact zZ (qJ0 hl) g3
    ·cases h2
   ·rename_i row
    split at h2
    ·rename_i hl
     obtain ⟨b,o1,S1,g1,g2,rfl,_,g3⟩:=hv
     refine h.did (run b o1 g1) h2 ⟨b,o1+F.offset,rfl,RepRow.drop g2 hl,?_⟩
     exact zZ (qJ0 hl) g3
    ·cases h2
   ·cases h2
 ·cases h2
end
end Go.TV
namespace Go.TV
def Env.int (e:Env) (x:Operand):Option Int:=
 match e.sc x with
 | some (.int _ n)=>some n
 | _=>none
def Env.node (e:Env) (i:Nat) (p:List zC1):Option V:=(lk i e.ob).bind fun v=>v.get p
def zY (T:Nat→Option TyI) (o:Oper) (t:Nat) (x ix:Operand) (e:Env):Option Env:=
 (T t).bind fun d=>match d.kd with
  | .slice el=>(T el).bind fun de=>(e.int ix).bind fun z=>if z < 0 then none else (e.cl x).bind fun k=>match k with
   | .ref i p=>(match e.node i p with
    | some (.list true m rows)=>if m=de.size then (if z.toNat < rows.length then e.putO o.dst (.pl (.one (.addr i p m z.toNat 0))) else none) else none
    | _=>none)
   | .part i p m lo hi=>(match e.node i p with
    | some (.list true m' rows)=>if m=de.size∧m'=m then (if z.toNat < hi - lo then e.putO o.dst (.pl (.one (.addr i p m (lo+z.toNat) 0))) else none) else none
    | _=>none)
   | .v (.list false m rows)=>if m=de.size then (match rows[z.toNat]? with | some r=>e.putO o.dst (.pl (.one (.ba r))) | none=>none) else none
   | _=>none
  | _=>none
def jM (T:Nat→Option TyI) (o:Oper) (t:Nat) (x ix:Operand) (e:Env):Option Env:=
 (T t).bind fun d=>match d.kd with
  | .string=>(e.int ix).bind fun z=>if z < 0 then none else (e.sc x).bind fun
   | .string s=>if z.toNat < s.size then e.putO o.dst (.pl (.one (.v (.sc (.int .u8 (bt s z.toNat)))))) else none
   | _=>none
  | _=>none
def jK (T:Nat→Option TyI) (o:Oper) (t:Nat) (x:Operand) (f:Nat) (e:Env):Option Env:=
 (T t).bind fun d=>match d.kd with
  | .struct fs=>(fs[f]?).bind fun q=>(T q.2).bind fun df=>(e.val x).bind fun
   | .pl (.agg cs)=>(match df.kd with
    | .struct _=>if q.1+df.size≤cs.length then e.putO o.dst (.pl (.agg ((cs.drop q.1).take df.size))) else none
    | _=>(cs[q.1]?).bind fun k=>e.putO o.dst (.pl (.one k)))
   | _=>none
  | _=>none
theorem CsRep.length {w:World} {D:CS} {hs:Nat→Value} {nx:Nat} {ob:List (Nat×V)}:∀ (cs:List C) (us:List Value),CsRep w D hs nx ob cs us→us.length=cs.length
 | [],_,h=>by rw [show _=[] from h]; rfl
 | c :: cs,us,h=>by
  obtain ⟨u,r,rfl,_,h2⟩:=h
  simp [CsRep.length cs r h2]
theorem CsRep.get {w:World} {D:CS} {hs:Nat→Value} {nx:Nat} {ob:List (Nat×V)}:∀ (cs:List C) (us:List Value) (i:Nat) (k:C),CsRep w D hs nx ob cs us→cs[i]? = some k→∃ u,us[i]? = some u∧CRep w D hs nx ob k u
 | [],_,_,_,_,h=>by simp at h
 | x :: cs,us,0,k,h,hi=>by
  obtain ⟨u,r,rfl,h1,_⟩:=h
  simp at hi
  subst hi
  exact ⟨u,rfl,h1⟩
 | x :: cs,us,i+1,k,h,hi=>by
  obtain ⟨u,r,rfl,_,h2⟩:=h
  simp at hi
  obtain ⟨z,k1,k2⟩:=CsRep.get cs r i k h2 hi
  exact ⟨z,by simpa using k1,k2⟩
theorem CsRep.drop {w:World} {D:CS} {hs:Nat→Value} {nx:Nat} {ob:List (Nat×V)}:∀ (n:Nat) (cs:List C) (us:List Value),CsRep w D hs nx ob cs us→CsRep w D hs nx ob (cs.drop n) (us.drop n)
 | 0,_,_,h=>by simpa using h
 | n+1,[],us,h=>by rw [show us=[] from h]; rfl
 | n+1,c :: cs,us,h=>by
  obtain ⟨u,r,rfl,_,h2⟩:=h
  simpa using CsRep.drop n cs r h2
theorem CsRep.take {w:World} {D:CS} {hs:Nat→Value} {nx:Nat} {ob:List (Nat×V)}:∀ (n:Nat) (cs:List C) (us:List Value),CsRep w D hs nx ob cs us→CsRep w D hs nx ob (cs.take n) (us.take n)
 | 0,_,_,h=>by simp [CsRep]
 | n+1,[],us,h=>by rw [show us=[] from h]; rfl
 | n+1,c :: cs,us,h=>by
  obtain ⟨u,r,rfl,h1,h2⟩:=h
  exact ⟨u,r.take n,by simp,h1,CsRep.take n cs r h2⟩
theorem RepRows.get {w:World} {D:CS} {n b o:Nat}:∀ (rs:List (List V)) (k i:Nat) (r:List V),RepRows w D n b o rs k emp→rs[i]? = some r→r.length=n∧RepRow w D (rdm w b (o+(k+i) * n)) r 0 emp
 | [],_,_,_,_,h=>by simp at h
 | x :: rs,k,0,r,h,hi=>by
  obtain ⟨S1,S2,h1,h2,h3,h4,h5⟩:=h
  have e1:S1=emp:=zF9 fun x y=>⟨fun q=>by rw [h5]; exact .inl q,fun q=>q.elim⟩
  subst e1
  simp at hi
  subst hi
  exact ⟨h1,h2⟩
 | x :: rs,k,i+1,r,h,hi=>by
  obtain ⟨S1,S2,h1,h2,h3,h4,h5⟩:=h
  have e2:S2=emp:=zF9 fun x y=>⟨fun q=>by rw [h5]; exact .inr q,fun q=>q.elim⟩
  subst e2
  simp at hi
  have:=RepRows.get rs (k+1) i r h3 hi
  rw [show k+1+i=k+(i+1) by omega] at this
  exact this
section
variable {gG:GG} {c:Ctx gG} {e e':Env} {a:Act} {w:World} {D:CS} {hs:Nat→Value} {S:CS} {X:Cfg} {o:Oper}
theorem StD.int (h:StD c e a w D hs S) {x:Operand} {n:Int} (hx:e.int x=some n):∃ k,a.eval x=.int k n:=by
 unfold Env.int at hx
 split at hx
 ·rename_i k m hv
  injection hx with hx
  subst hx
  exact ⟨k,(h.sc hv).1⟩
 ·cases hx
theorem elem_eq {P:Program} {t el:Nat} (h:P.underlying t=some (.slice el)):P.elem t=el:=by simp [Program.elem,h]
theorem StD.lnode (h:StD c e a w D hs S) {i:Nat} {p:List zC1} {x:V} (hx:e.node i p=some x):∃ v,lk i e.ob=some v∧v.get p=some x:=zbi hx
theorem run_ixa {P:Program} {t el:Nat} {de:TyI} {b o' len cap:Nat} {k:IntKind} {z:Int} (hu:P.underlying t=some (.slice el)) (hde:TyOk P el de) (h0:0≤z) (h1:z < len) :
  (Instr.indexAt t (.slice (some (ad b o')) len cap) (.int k z)).run P w=.ok (.pointer (some (ad b (o'+z.toNat * de.size)))) w:=by
 rw [run_indexAt_slice w t (ad b o') len cap k z (by rw [elem_eq hu]; exact hu),if_pos ⟨h0,h1⟩,elem_eq hu,zD2 hde]
 simp [zC0]
theorem evIndexAddr_ok (h:StD c e a w D hs S) {t:Nat} {x ix:Operand} (ho:o.op=.indexAddr t x ix) (he:zY X.T o t x ix e=some e'):Did X.P c o a w e':=by
 obtain ⟨d,h1,h2⟩:=zbi he
 split at h2
 case h_2=>cases h2
 rename_i el hk
 obtain ⟨de,h3,h2⟩:=zbi h2
 obtain ⟨z,h4,h2⟩:=zbi h2
 split at h2
 ·cases h2
 rename_i hz
 obtain ⟨k,h5,h2⟩:=zbi h2
 have hv:=h.cl h5
 obtain ⟨kz,hzv⟩:=h.int h4
 have hu:=xC (X.hT _ _ h1) hk
 have hde:=X.hT _ _ h3
 have run:∀ b o' len cap,a.eval x=.slice (some (ad b o')) len cap→z < len→(execOp a.eval o).run X.P w=.ok (.value (.pointer (some (ad b (o'+z.toNat * de.size))))) w:=fun b o' len cap hx hl=>by
  have:=run_ixa (w:=w) (b:=b) (o':=o') (len:=len) (cap:=cap) (k:=kz) hu hde (by omega) hl
  simp [execOp,ho,hx,hzv,this]
 split at h2
 ·rename_i i p
  split at h2
  ·rename_i m rows hn
   split at h2
   ·rename_i hm
    subst hm
    split at h2
    ·rename_i hl
     obtain ⟨v,k1,k2⟩:=h.lnode hn
     obtain ⟨u1,g1,gh,g2⟩:=hv.2 v _ k1 k2
     obtain ⟨u2,Sx,k3,k4,_⟩:=h.node k1 k2
     rw [g1] at k3
     injection k3 with k3
     subst k3
     subst g2
     rcases k4 with ⟨rfl,_,_⟩ | ⟨b,o',cap,S1,k5,k6,_⟩
     ·simp at hl
     ·refine h.did (run b o' _ cap k5 (by omega)) h2 ⟨hv.1,fun v' y' q1 q2=>?_⟩
      rw [k1] at q1
      injection q1 with q1
      subst q1
      exact ⟨_,g1,gh,b,o',by rw [k5]; rfl,by simp⟩
    ·cases h2
   ·cases h2
  ·cases h2
 ·rename_i i p m lo hi
  split at h2
  ·rename_i m' rows hn
   split at h2
   ·rename_i hm
    obtain ⟨rfl,rfl⟩:=hm
    split at h2
    ·rename_i hl
     obtain ⟨v,k1,k2⟩:=h.lnode hn
     obtain ⟨u1,g1,gh,⟨A,len,cap,A',cap',q1,q2,q3,q4,q5,q6,q7⟩⟩:=hv.2 v _ k1 k2
     rcases q7 with ⟨_,_,q7⟩ | ⟨b,o1,o2,q8,q9,q10⟩
     ·omega
     ·have ho2:=q10 (by omega)
      subst q8
      subst q9
      refine h.did (run b o2 (hi - lo) cap' q6 (by omega)) h2 ⟨hv.1,fun v' y' r1 r2=>?_⟩
      rw [k1] at r1
      injection r1 with r1
      subst r1
      refine ⟨_,g1,gh,b,o1,by rw [q1]; rfl,?_⟩
      rw [ho2,Nat.add_mul]
      simp [Nat.add_assoc]
    ·cases h2
   ·cases h2
  ·cases h2
 ·rename_i m rows
  split at h2
  ·rename_i hm
   subst hm
   split at h2
   ·rename_i r hr
    rcases hv with ⟨rfl,_,_⟩ | ⟨b,o',cap,S1,k5,k6,k7,rfl,_,k8⟩
    ·simp at hr
    ·have hl:=(List.getElem?_eq_some_iff.1 hr).1
     obtain ⟨r1,r2⟩:=RepRows.get rows 0 z.toNat r k7 hr
     rw [Nat.zero_add] at r2
     refine h.did (run b o' _ cap k5 (by omega)) h2 ⟨b,_,rfl,r2,?_⟩
     rintro x y ⟨s1,s2,s3⟩
     refine k8 x y ⟨s1,by omega,?_⟩
     have:(z.toNat+1) * de.size≤rows.length * de.size:=Nat.mul_le_mul_right _ hl
     rw [Nat.add_mul,Nat.one_mul] at this
     omega
   ·cases h2
  ·cases h2
 ·cases h2
theorem evIndex_ok (h:StD c e a w D hs S) {t:Nat} {x ix:Operand} (ho:o.op=.index t x ix) (he:jM X.T o t x ix e=some e'):Did X.P c o a w e':=by
 obtain ⟨d,h1,h2⟩:=zbi he
 split at h2
 case h_2=>cases h2
 rename_i hk
 obtain ⟨z,h4,h2⟩:=zbi h2
 split at h2
 ·cases h2
 rename_i hz
 obtain ⟨s,h5,h2⟩:=zbi h2
 split at h2
 ·rename_i s
  split at h2
  ·rename_i hl
   obtain ⟨kz,hzv⟩:=h.int h4
   have hu:=run_underlying (qZ (X.hT _ _ h1) hk) w
   have hx:=(h.sc h5).1
   refine h.did ?_ h2 (xT rfl)
   have hb:s[z.toNat]? = some (s[z.toNat]'hl):=by simp [hl]
   have hq:((s[z.toNat]'hl).toNat:Int)=bt s z.toNat:=by
    unfold bt
    rw [Array.getD_eq_getD_getElem?,Array.getElem?_eq_getElem hl]
    rfl
   simp [execOp,ho,hx,hzv,Instr.index,asIntOf,hu,show 0≤z by omega,hb,hq]
  ·cases h2
 ·cases h2
theorem evField_ok (h:StD c e a w D hs S) {t f:Nat} {x:Operand} (ho:o.op=.field t x f) (he:jK X.T o t x f e=some e'):Did X.P c o a w e':=by
 obtain ⟨d,h1,h2⟩:=zbi he
 split at h2
 case h_2=>cases h2
 rename_i fs hk
 obtain ⟨q,h3,h2⟩:=zbi h2
 obtain ⟨df,h4,h2⟩:=zbi h2
 obtain ⟨s,h5,h2⟩:=zbi h2
 obtain ⟨FS,hu,hfs⟩:=zF6 (X.hT _ _ h1) hk
 subst hfs
 obtain ⟨F,hF,hq⟩:∃ F,FS[f]? = some F∧(F.offset,F.type)=q:=by
  rw [List.getElem?_map,Array.getElem?_toList] at h3
  obtain ⟨F,k1,k2⟩:=Option.map_eq_some_iff.1 h3
  exact ⟨F,k1,k2⟩
 subst hq
 have hv:=h.val h5
 have hdf:=X.hT _ _ h4
 split at h2
 case h_2=>cases h2
 rename_i cs
 obtain ⟨us,h6,h7⟩:=hv
 have hlen:=h7.length
 split at h2
 ·rename_i fs' hk'
  split at h2
  ·rename_i hl
   refine h.did (u:=.agg ((us.drop F.offset).take df.size).toArray) ?_ h2 ⟨_,rfl,(h7.drop F.offset).take df.size⟩
   have hagg:df.kd.agg=true:=by rw [hk']; rfl
   have hx:us.toArray.extract F.offset (F.offset+df.size)=((us.drop F.offset).take df.size).toArray:=by
    simp [List.extract_eq_take_drop]
   simp [execOp,ho,Instr.field,run_underlying hu,hF,h6,asAgg,part,qE1 hdf,zD2 hdf,hagg,hx]
  ·cases h2
 ·rename_i hk'
  obtain ⟨k,h8,h2⟩:=zbi h2
  obtain ⟨u,g1,g2⟩:=CsRep.get cs us _ k h7 h8
  have hagg:df.kd.agg=false:=by
   cases hd:df.kd <;> simp [Kd.agg]
   rename_i l
   exact hk' l hd
  refine h.did (u:=u) ?_ h2 g2
  have g1':us.toArray[F.offset]? = some u:=by simpa using g1
  have hp:(part F.type us.toArray F.offset).run X.P w=.ok u w:=by
   unfold part
   rw [Sem.run_bind,qE1 hdf,hagg]
   simp only [Result.andThen_ok,Bool.false_eq_true,if_false]
   rw [g1']
   rfl
  simp [execOp,ho,Instr.field,run_underlying hu,hF,h6,asAgg,hp]
theorem evLoad_ok (h:StD c e a w D hs S) {t:Nat} {x:Operand} (ho:o.op=.load t x) (he:xU X.T o t x e=some e'):Did X.P c o a w e':=by
 obtain ⟨d,h1,h2⟩:=zbi he
 obtain ⟨k,h3,h2⟩:=zbi h2
 split at h2
 case isFalse=>cases h2
 obtain ⟨l,h4,h2⟩:=zbi h2
 obtain ⟨b,o',us,g1,g2,g3,g4⟩:=h.behind h4 (h.cl h3)
 have hd:=X.hT _ _ h1
 split at h2
 ·rename_i fs hk
  have hagg:d.kd.agg=true:=by rw [hk]; rfl
  refine h.did (u:=.agg us.toArray) ?_ h2 ⟨us,rfl,g4⟩
  simp [execOp,ho,g1,qI3 hd hagg g2 g3]
 ·rename_i hk
  have hagg:d.kd.agg=false:=by
   cases hq:d.kd <;> simp [Kd.agg]
   rename_i l
   exact hk l hq
  split at h2
  ·rename_i q
   obtain ⟨u,r,rfl,f1,f2⟩:=g4
   refine h.did (u:=u) ?_ h2 f1
   have hc:w.cell? (ad b o')=some u:=g3 0 u rfl
   simp [execOp,ho,g1,qI4 hd hagg hc]
  ·cases h2
end
end Go.TV
namespace Go.TV
theorem emp_l {a b:CS} (h:emp=cup a b):a=emp:=zF9 fun x y=>⟨fun q=>by rw [h]; exact .inl q,fun q=>q.elim⟩
theorem emp_r {a b:CS} (h:emp=cup a b):b=emp:=zF9 fun x y=>⟨fun q=>by rw [h]; exact .inr q,fun q=>q.elim⟩
theorem RepRows.drop {w:World} {D:CS} {n b o:Nat}:∀ (l:Nat) (rs:List (List V)) (k:Nat),RepRows w D n b o rs k emp→RepRows w D n b o (rs.drop l) (k+l) emp
 | 0,_,_,h=>by simpa using h
 | l+1,[],_,_=>rfl
 | l+1,r :: rs,k,h=>by
  obtain ⟨S1,S2,h1,h2,h3,h4,h5⟩:=h
  have e2:=emp_r h5
  subst e2
  have:=RepRows.drop l rs (k+1) h3
  rw [show k+1+l=k+(l+1) by omega] at this
  simpa using this
theorem RepRows.take {w:World} {D:CS} {n b o:Nat}:∀ (l:Nat) (rs:List (List V)) (k:Nat),RepRows w D n b o rs k emp→RepRows w D n b o (rs.take l) k emp
 | 0,_,_,_=>by simp [RepRows]
 | l+1,[],_,_=>rfl
 | l+1,r :: rs,k,h=>by
  obtain ⟨S1,S2,h1,h2,h3,h4,h5⟩:=h
  have e1:=emp_l h5
  have e2:=emp_r h5
  subst e1
  subst e2
  exact ⟨emp,emp,h1,h2,RepRows.take l rs (k+1) h3,h4,h5⟩
theorem RepRows.shift {w:World} {D:CS} {n b o:Nat} (l:Nat):∀ (rs:List (List V)) (k:Nat),RepRows w D n b o rs (k+l) emp→RepRows w D n b (o+l * n) rs k emp
 | [],_,_=>rfl
 | r :: rs,k,h=>by
  obtain ⟨S1,S2,h1,h2,h3,h4,h5⟩:=h
  have e1:=emp_l h5
  have e2:=emp_r h5
  subst e1
  subst e2
  refine ⟨emp,emp,h1,?_,RepRows.shift l rs (k+1) (by rw [show k+1+l=k+l+1 by omega]; exact h3),h4,h5⟩
  rw [show o+l * n+k * n=o+(k+l) * n by rw [Nat.add_mul]; omega]
  exact h2
def Env.bound (e:Env) (d:Nat):Option Operand→Option Nat
 | none=>some d
 | some x=>(e.int x).bind fun z=>if z < 0 then none else some z.toNat
def Env.cut (e:Env) (n:Nat) (lo hi mx:Option Operand):Option (Nat×Nat):=
 (e.bound n hi).bind fun h=>(e.bound 0 lo).bind fun l=>(match mx with | some x=>(e.bound n (some x)).bind fun m=>if h≤m∧m≤n∧hi.isSome=true then some () else none | none=>some ()).bind fun _ =>
  if l≤h∧h≤n then some (l,h) else none
def jS (T:Nat→Option TyI) (o:Oper) (t:Nat) (x:Operand) (lo hi mx:Option Operand) (e:Env):Option Env:=
 (T t).bind fun d=>match d.kd with
  | .string=>(e.sc x).bind fun
   | .string s=>if mx.isSome=true then none else (e.cut s.size lo hi none).bind fun q=>e.putO o.dst (.pl (.one (.v (.sc (.string (s.extract q.1 q.2))))))
   | _=>none
  | .slice el=>(T el).bind fun de=>(e.cl x).bind fun k=>match k with
   | .v (.list false m rows)=>if m=de.size then (e.cut rows.length lo hi mx).bind fun q=>e.putO o.dst (.pl (.one (.v (.list false m ((rows.drop q.1).take (q.2 - q.1)))))) else none
   | .ref i p=>(match e.node i p with
    | some (.list true m rows)=>if m=de.size then (e.cut rows.length lo hi mx).bind fun q=>e.putO o.dst (.pl (.one (.part i p m q.1 q.2))) else none
    | _=>none)
   | .part i p m l0 h0=>(match e.node i p with
    | some (.list true m' rows)=>if m=de.size∧m'=m then (e.cut (h0 - l0) lo hi mx).bind fun q=>e.putO o.dst (.pl (.one (.part i p m (l0+q.1) (l0+q.2)))) else none
    | _=>none)
   | _=>none
  | _=>none
section
variable {gG:GG} {c:Ctx gG} {e e':Env} {a:Act} {w:World} {D:CS} {hs:Nat→Value} {S:CS} {X:Cfg} {o:Oper}
theorem StD.bound1 (h:StD c e a w D hs S) {x:Operand} {d n:Nat} (hx:e.bound d (some x)=some n):∃ k,a.eval x=.int k n:=by
 simp only [Env.bound] at hx
 obtain ⟨z,h1,h2⟩:=zbi hx
 split at h2
 ·cases h2
 ·injection h2 with h2
  obtain ⟨k,hk⟩:=h.int h1
  exact ⟨k,by rw [hk]; congr 1; omega⟩
theorem StD.bounds (h:StD c e a w D hs S) {P:Program} {isSlice:Bool} {n cap:Nat} {lo hi mx:Option Operand} {q:Nat×Nat} (hq:e.cut n lo hi mx=some q) (hc:n≤cap) :
  ∃ m,(Instr.sliceBounds isSlice n cap (lo.map a.eval) (hi.map a.eval) (mx.map a.eval)).run P w=.ok (q.1,q.2,m) w∧q.1≤q.2∧q.2≤n∧q.2≤m∧m≤cap∧(mx=none→m=cap):=by
 obtain ⟨H,h1,hq⟩:=zbi hq
 obtain ⟨L,h2,hq⟩:=zbi hq
 obtain ⟨_,h3,hq⟩:=zbi hq
 split at hq
 case isFalse=>cases hq
 rename_i hb
 injection hq with hq
 subst hq
 obtain ⟨hb1,hb2⟩:=hb
 have lowr:∀ (m:Nat) (code:BoundsCode),(match lo.map a.eval with
   | some v=>do
    let l ← Instr.sliceBound v H code
    pure (l,H,m)
   | none=>do
    let l ← pure 0
    pure (l,H,m):Sem (Nat×Nat×Nat)).run P w=.ok (L,H,m) w:=by
  intro m code
  cases lo with
  | none =>
   simp only [Env.bound,Option.some.injEq] at h2
   subst h2
   rfl
  | some x =>
   obtain ⟨k,hk⟩:=h.bound1 h2
   simp only [Option.map_some,hk]
   rw [Sem.run_bind,run_sliceBound w k L H code (by omega) (by omega)]
   simp
 cases mx with
 | none =>
  refine ⟨cap,?_,hb1,hb2,by simp only; omega,Nat.le_refl _,fun _=>rfl⟩
  cases hi with
  | none =>
   simp only [Env.bound,Option.some.injEq] at h1
   subst h1
   have:=lowr cap .sliceB
   simp only [Instr.sliceBounds,Option.map_none,Sem.run_bind,Sem.run_pure,Result.andThen_ok,Option.isSome_none,Bool.false_eq_true,if_false]
   exact this
  | some x =>
   obtain ⟨k,hk⟩:=h.bound1 h1
   have:=lowr cap .sliceB
   simp only [Instr.sliceBounds,Option.map_none,Option.map_some,hk,Sem.run_bind,Sem.run_pure,Result.andThen_ok,Option.isSome_none,Bool.false_eq_true,if_false]
   rw [run_sliceBound w k H cap _ (by omega) (by omega)]
   simp only [Result.andThen_ok,Int.toNat_natCast]
   exact this
 | some y =>
  simp only at h3
  obtain ⟨m,h4,h5⟩:=zbi h3
  split at h5
  case isFalse=>cases h5
  rename_i hm
  obtain ⟨hm1,hm2,hm3⟩:=hm
  obtain ⟨ky,hky⟩:=h.bound1 h4
  refine ⟨m,?_,hb1,hb2,hm1,by omega,fun q=>by cases q⟩
  cases hi with
  | none=>cases hm3
  | some x =>
   obtain ⟨k,hk⟩:=h.bound1 h1
   have:=lowr m .slice3C
   simp only [Instr.sliceBounds,Option.map_some,hk,hky,Sem.run_bind,Sem.run_pure,Result.andThen_ok,Option.isSome_some,if_true]
   rw [run_sliceBound w ky m cap _ (by omega) (by omega)]
   simp only [Result.andThen_ok,Int.toNat_natCast]
   rw [run_sliceBound w k H m _ (by omega) (by omega)]
   simp only [Result.andThen_ok,Int.toNat_natCast]
   exact this
theorem run_cut {P:Program} {t el:Nat} {de:TyI} {A:Option Addr} {len cap l hh m:Nat} {lo hi mx:Option Value} (hu:P.underlying t=some (.slice el)) (hde:TyOk P el de)
  (hb:(Instr.sliceBounds true len cap lo hi mx).run P w=.ok (l,hh,m) w) :
  (Instr.sliceAt t (.slice A len cap) lo hi mx).run P w=.ok (.slice (if m=l then A else A.map (·.add (l * de.size))) (hh - l) (m - l)) w:=by
 have hu':=run_underlying hu w
 simp [Instr.sliceAt,hu',Instr.slice,hb,zD2 hde]
theorem evSlice_ok (h:StD c e a w D hs S) {t:Nat} {x:Operand} {lo hi mx:Option Operand} (ho:o.op=.slice t x lo hi mx) (he:jS X.T o t x lo hi mx e=some e'):Did X.P c o a w e':=by
 obtain ⟨d,h1,h2⟩:=zbi he
 split at h2
 ·rename_i hk
  obtain ⟨s,h3,h2'⟩:=zbi h2
  split at h2'
  ·rename_i s
   split at h2'
   ·cases h2'
   rename_i hmx
   have hmx:mx=none:=by cases mx with | none=>rfl | some _=>simp at hmx
   obtain ⟨q,h4,h5⟩:=zbi h2'
   subst hmx
   obtain ⟨m,g1,g2,g3,g4,g5,g6⟩:=h.bounds (P:=X.P) (isSlice:=false) h4 (Nat.le_refl _)
   have hu:=run_underlying (qZ (X.hT _ _ h1) hk) w
   have hx:=(h.sc h3).1
   refine h.did (u:=.string (s.extract q.1 q.2)) ?_ h5 (xT rfl)
   simp only [Option.map_none] at g1
   simp [execOp,ho,hx,Instr.sliceAt,hu,Instr.slice,g1]
  ·cases h2'
 ·rename_i el hk
  obtain ⟨de,h3,h2⟩:=zbi h2
  obtain ⟨k,h4,h2⟩:=zbi h2
  have hu:=xC (X.hT _ _ h1) hk
  have hde:=X.hT _ _ h3
  have hv:=h.cl h4
  have run:∀ (A:Option Addr) (len cap:Nat) (q:Nat×Nat),a.eval x=.slice A len cap→len≤cap→e.cut len lo hi mx=some q →
    ∃ m,(execOp a.eval o).run X.P w=.ok (.value (.slice (if m=q.1 then A else A.map (·.add (q.1 * de.size))) (q.2 - q.1) (m - q.1))) w∧q.1≤q.2∧q.2≤len∧q.2≤m∧m≤cap:=fun A len cap q hx hl hq=>by
   obtain ⟨m,g1,g2,g3,g4,g5,g6⟩:=h.bounds (P:=X.P) (isSlice:=true) hq hl
   refine ⟨m,?_,g2,g3,g4,g5⟩
   have:=run_cut (A:=A) hu hde g1
   simp [execOp,ho,hx,this]
  split at h2
  ·rename_i m rows
   split at h2
   case isFalse=>cases h2
   rename_i hm
   subst hm
   obtain ⟨q,h5,h6⟩:=zbi h2
   rcases hv with ⟨rfl,k5,_⟩ | ⟨b,o',cap,S1,k5,k6,k7,rfl,_,k8⟩
   ·obtain ⟨A,hA⟩:=zK8 k5
    obtain ⟨m,r1,r2,r3,r4,r5⟩:=run A 0 0 q hA (Nat.le_refl _) h5
    have:m=0:=by omega
    subst this
    have:q.1=0:=by omega
    have hq2:q.2=0:=by omega
    refine h.did r1 h6 (.inl ⟨by simp,?_,rfl⟩)
    rcases k5 with k5 | ⟨_,A',k5⟩
    ·rw [hA] at k5
     injection k5 with k5
     exact .inl (by simp [this,hq2,k5])
    ·rw [hA] at k5
     injection k5 with k5
     exact .inr ⟨rfl,A',by simp [this,hq2,k5]⟩
   ·obtain ⟨m,r1,r2,r3,r4,r5⟩:=run _ _ cap q k5 k6 h5
    have hlen:((rows.drop q.1).take (q.2 - q.1)).length=q.2 - q.1:=by simp; omega
    by_cases hmq:m=q.1
    ·rw [if_pos hmq] at r1
     refine h.did r1 h6 (.inr ⟨b,o',m - q.1,emp,by rw [hlen],by rw [hlen]; omega,?_,rfl,rfl,?_⟩)
     ·have:(rows.drop q.1).take (q.2 - q.1)=[]:=by rw [← List.length_eq_zero_iff,hlen]; omega
      rw [this]
      rfl
     ·rintro x y ⟨s1,s2,s3⟩
      rw [hlen,show q.2 - q.1=0 by omega] at s3
      omega
    ·rw [if_neg hmq] at r1
     simp only [Option.map_some,zC0] at r1
     refine h.did r1 h6 (.inr ⟨b,o'+q.1 * de.size,m - q.1,emp,by rw [hlen],by rw [hlen]; omega,?_,rfl,rfl,?_⟩)
     ·have:=RepRows.drop q.1 rows 0 k7
      rw [Nat.zero_add] at this
      have:=RepRows.shift q.1 (rows.drop q.1) 0 (by rw [Nat.zero_add]; exact this)
      exact this.take _
     ·rintro x y ⟨s1,s2,s3⟩
      rw [hlen] at s3
      refine k8 x y ⟨s1,by omega,?_⟩
      have:(q.1+(q.2 - q.1)) * de.size≤rows.length * de.size:=Nat.mul_le_mul_right _ (by omega)
      rw [Nat.add_mul] at this
      omega
  ·rename_i i p
   split at h2
   ·rename_i m rows hn
    split at h2
    case isFalse=>cases h2
    rename_i hm
    subst hm
    obtain ⟨q,h5,h6⟩:=zbi h2
    obtain ⟨v,k1,k2⟩:=h.lnode hn
    obtain ⟨u1,g1,gh,g2⟩:=hv.2 v _ k1 k2
    obtain ⟨u2,Sx,k3,k4,_⟩:=h.node k1 k2
    rw [g1] at k3
    injection k3 with k3
    subst k3
    subst g2
    have fin:∀ (A:Option Addr) (cap mm:Nat) (u:Value),a.eval x=.slice A rows.length cap→(A=none→cap=0)→(∀ y,A=some y→∃ b o,y=ad b o)→mm≤cap→q.1≤q.2→q.2≤rows.length→q.2≤mm →
      u=.slice (if mm=q.1 then A else A.map (·.add (q.1 * de.size))) (q.2 - q.1) (mm - q.1)→partV de.size q.1 q.2 (a.eval x) u:=by
     intro A cap mm u hx hA hA' h1 h2 h3 h4 hu'
     refine ⟨A,rows.length,cap,_,mm - q.1,hx,h2,h3,by omega,by omega,hu',?_⟩
     cases A with
     | none =>
      have:=hA rfl
      refine .inl ⟨rfl,by split <;> rfl,by omega⟩
     | some y =>
      obtain ⟨b,o,rfl⟩:=hA' y rfl
      by_cases hq:mm=q.1
      ·exact .inr ⟨b,o,o,rfl,by rw [if_pos hq],fun h0=>by omega⟩
      ·exact .inr ⟨b,o,o+q.1 * de.size,rfl,by rw [if_neg hq]; simp [zC0],fun _=>rfl⟩
    rcases k4 with ⟨rfl,k5',_⟩ | ⟨b,o',cap,S1,k5,k6,_⟩
    ·have k5:=yT k5'
     obtain ⟨mm,r1,r2,r3,r4,r5⟩:=run none 0 0 q k5 (Nat.le_refl _) h5
     refine h.did r1 h6 ⟨hv.1,fun v' y' q1 q2=>⟨_,g1,gh,fin none 0 mm _ k5 (fun _=>rfl) (fun y hy=>by cases hy) r5 r2 r3 r4 rfl⟩⟩
    ·obtain ⟨mm,r1,r2,r3,r4,r5⟩:=run _ _ cap q k5 k6 h5
     refine h.did r1 h6 ⟨hv.1,fun v' y' q1 q2=>⟨_,g1,gh,fin _ cap mm _ k5 (fun hh=>by cases hh) (fun y hy=>⟨b,o',by injection hy with hy; exact hy.symm⟩) r5 r2 r3 r4 rfl⟩⟩
   ·cases h2
  ·rename_i i p m l0 h0
   split at h2
   ·rename_i m' rows hn
    split at h2
    case isFalse=>cases h2
    rename_i hm
    obtain ⟨rfl,rfl⟩:=hm
    obtain ⟨q,h5,h6⟩:=zbi h2
    obtain ⟨v,k1,k2⟩:=h.lnode hn
    obtain ⟨u1,g1,gh,⟨A,len,cap,A',cap',q1,q2,q3,q4,q5,q6,q7⟩⟩:=hv.2 v _ k1 k2
    obtain ⟨mm,r1,r2,r3,r4,r5⟩:=run A' _ cap' q q6 (by omega) h5
    refine h.did r1 h6 ⟨hv.1,fun v' y' s1 s2=>⟨_,g1,gh,A,len,cap,(if mm=q.1 then A' else A'.map (·.add (q.1 * de.size))),mm - q.1,q1,by omega,by omega,by omega,by omega,?_,?_⟩⟩
    ·rw [show l0+q.2 - (l0+q.1)=q.2 - q.1 by omega]
    ·rcases q7 with ⟨rfl,rfl,q7⟩ | ⟨b,o1,o2,q8,q9,q10⟩
     ·exact .inl ⟨rfl,by split <;> rfl,by omega⟩
     ·subst q9
      by_cases hq:mm=q.1
      ·exact .inr ⟨b,o1,o2,q8,by rw [if_pos hq],fun h0=>by omega⟩
      ·refine .inr ⟨b,o1,o2+q.1 * de.size,q8,by rw [if_neg hq]; simp [zC0],fun _=>?_⟩
       rw [q10 (by omega),Nat.add_mul]
       omega
   ·cases h2
  ·cases h2
 ·cases h2
end
end Go.TV
namespace Go.TV
def V.alive:V→Bool
 | .dead=>false
 | _=>true
def Env.takes (e:Env):List C→Option (List V×Env)
 | []=>some ([],e)
 | k :: ks=>(e.take k).bind fun q=>if q.1.alive=true then (q.2.takes ks).map fun r=>(q.1 :: r.1,r.2) else none
theorem Rep.oneCell {w:World} {D:CS} {x:V} {u:Value} {S:CS} (h:Rep w D x u S) (ha:x.alive=true):u.oneCell'=true:=by
 cases x with
 | sc v =>
  obtain ⟨rfl,h2,_⟩:=h
  cases u <;> simp [plain] at h2 <;> rfl
 | list own n rows =>
  rcases h with ⟨_,q,_⟩ | ⟨_,_,_,_,rfl,_⟩ <;> first | (obtain ⟨a,rfl⟩:=zK8 q; rfl) | rfl
 | box own row=>obtain ⟨_,_,_,rfl,_⟩:=h; rfl
 | fn f caps=>obtain ⟨_,rfl,_⟩:=h; rfl
 | bld _ _ _=>obtain ⟨_,_,_,rfl,_⟩:=h; rfl
 | dead=>cases ha
section
variable {gG:GG} {c:Ctx gG} {e e':Env} {a:Act} {w:World} {D:CS} {hs:Nat→Value} {S:CS} {X:Cfg} {o:Oper}
theorem CsRep.imp {w w':World} {D D':CS} {hs hs':Nat→Value} {nx nx':Nat} {ob ob':List (Nat×V)} (hh:∀ k u,CRep w D hs nx ob k u→CRep w' D' hs' nx' ob' k u):∀ (cs:List C) (us:List Value),
  CsRep w D hs nx ob cs us→CsRep w' D' hs' nx' ob' cs us
 | [],_,h=>h
 | k :: cs,us,h=>by
  obtain ⟨u,r,h1,h2,h3⟩:=h
  exact ⟨u,r,h1,hh k u h2,CsRep.imp hh cs r h3⟩
theorem StD.takes:∀ (ks:List C) {e e':Env} {S:CS} (h:StD c e a w D hs S) {xs:List V} {us:List Value},e.takes ks=some (xs,e')→CsRep w D hs e.nx e.ob ks us →
  ∃ S1 S',RepRow w D (fun k=>us[k]?) xs 0 S1∧xs.length=us.length∧(∀ u ∈ us,u.oneCell'=true)∧StD c e' a w D hs S'∧TV.dj S1 S'∧sub S1 S∧sub S' S∧e'.nx=e.nx∧e'.np=e.np∧e'.N=e.N ∧
   (∀ k' u',CRep w D hs e.nx e.ob k' u'→CRep w D hs e'.nx e'.ob k' u')
 | [],e,e',S,h,xs,us,hk,hu=>by
  injection hk with hk
  injection hk with h1 h2
  subst h1
  subst h2
  rw [show us=[] from hu]
  exact ⟨emp,S,rfl,rfl,fun u q=>by simp at q,h,zW S,fun _ _ q=>q.elim,zD S,rfl,rfl,rfl,fun _ _ q=>q⟩
 | k :: ks,e,e',S,h,xs,us,hk,hu=>by
  simp only [Env.takes] at hk
  obtain ⟨⟨x,e1⟩,h1,hk⟩:=zbi hk
  simp only at hk
  split at hk
  case isFalse=>cases hk
  rename_i ha
  obtain ⟨⟨ys,e2⟩,h2,h3⟩:=Option.map_eq_some_iff.1 hk
  injection h3 with h3 h4
  subst h3
  subst h4
  obtain ⟨u,r,rfl,hu1,hu2⟩:=hu
  obtain ⟨S1,S',g1,g2,g3,g4,g5,g6,g7,g8,g9⟩:=h.take h1 hu1
  obtain ⟨T1,T',f1,f2,f3,f4,f5,f6,f7,f8,f9,f10,f11⟩:=StD.takes ks g2 h2 (CsRep.imp g9 ks r hu2)
  refine ⟨cup S1 T1,T',⟨u,S1,T1,rfl,g1,?_,zA0 g3 f6,rfl⟩,by simp [f2],?_,f4,qV (zA0 g3 f7) f5,fun b o q=>q.elim (g4 b o) (fun q=>g5 b o (f6 b o q)),zZ f7 g5,f8.trans g6,f9.trans g7,f10.trans g8,fun k' u' q=>f11 k' u' (g9 k' u' q)⟩
  ·refine RepRow.shift ys _ _ 0 1 T1 f1 (fun q _=>?_)
   show (u :: r)[1+q]? = r[0+q]?
   rw [Nat.add_comm 1 q,Nat.zero_add]
   exact List.getElem?_cons_succ
  ·intro v hv
   rcases List.mem_cons.1 hv with rfl | hv
   ·exact g1.oneCell ha
   ·exact f3 v hv
theorem zU1 (w:World) (o:Obj):Frm w (w.alloc o) emp where
 os:=rfl
 tape:=rfl
 output:=rfl
 size:=by simp
 blk:=fun k hk _=>Go.RowKit.Below.heap_alloc w o k hk
 cel:=fun b o' hb _=>⟨World.cell?_of_block (w:=w) (Go.RowKit.Below.heap_alloc w o b hb),World.frozen?_of_block (w:=w) (Go.RowKit.Below.heap_alloc w o b hb),by unfold zY4; rw [Go.RowKit.Below.heap_alloc w o b hb]⟩
theorem zL2 (w:World) (cs:Array Value) (t:Nat) (k:Nat):(w.alloc (.cells cs t)).cell? (ad w.heap.size k)=cs[k]?:=by
 simp only [World.cell?,World.alloc,ad,Array.getElem?_push_size,Option.isSome_none,Bool.false_eq_true,if_false]
theorem qI0 (w:World) (cs:Array Value) (t:Nat) (k:Nat):(w.alloc (.cells cs t)).frozen? (ad w.heap.size k)=false:=by
 simp only [World.frozen?,World.alloc,ad,Array.getElem?_push_size]
 simp
theorem StD.newBox (h:StD c e a w D hs S) {xs:List V} {us:List Value} {T:CS} {S0:CS} (hx:RepRow w D (fun k=>us[k]?) xs 0 T) (hl:xs.length=us.length) (hT:TV.dj T S) (h0:sub T S0)
  (hS0:∀ b o,S0 b o→c.S0 b o∨c.w0.heap.size≤b) (hb0:∀ b o,S0 b o→b < w.heap.size) (hDT:TV.dj T D) (t:Nat) :
  ∃ hs' S',StD c {e with nx:=e.nx+1,ob:=(e.nx,.box true xs) :: e.ob} a (w.alloc (.cells us.toArray t)) D hs' S'∧hs' e.nx=.pointer (some (ad w.heap.size 0)) ∧
   (∀ i,i≠e.nx→hs' i=hs i):=by
 have hf:=zU1 w (.cells us.toArray t)
 have h':=h.world hf
 have hr:Rep (w.alloc (.cells us.toArray t)) D (.box true xs) (.pointer (some (ad w.heap.size 0))) (cup (rng w.heap.size 0 xs.length) T):=by
  refine ⟨w.heap.size,0,T,rfl,?_,?_,?_,rfl⟩
  ·refine RepRow.frame (zD D) (hf.sameOn (qR D) h.Dl) xs _ _ 0 T hx (hf.sameOn (qR T) (fun b o q=>hb0 b o (h0 b o q))) (fun j _ hj=>?_)
   simp only [rdm,Nat.zero_add]
   rw [zL2]
   simp
  ·intro k hk
   rw [Nat.zero_add,zL2,qI0]
   exact ⟨⟨us[k]'(by omega),by simp [show k < us.length by omega]⟩,rfl⟩
  ·rintro x y ⟨rfl,_,_⟩ q
   have:=hb0 _ _ (h0 _ _ q)
   omega
 have:=h'.obj hr (qV (fun x y p q=>by have:=h.ob.blt x y q; have:=p.1; omega) hT) (qV (fun x y p q=>by have:=h.Dl x y q; have:=p.1; omega) hDT)
  (fun b o q=>q.elim (fun q=>.inr (by rw [q.1]; exact h.fr.size)) (fun q=>hS0 b o (h0 b o q)))
 exact ⟨_,_,this,by simp,fun i hi=>by simp [hi]⟩
theorem zok_rep {w:World} {D:CS} {x:V} (h:zok x=true):Rep w D x (zv x) emp:=by
 cases x with
 | sc v=>exact ⟨rfl,h,rfl⟩
 | list own n rows =>
  cases own with
  | true =>
   cases rows with
   | nil=>exact .inl ⟨rfl,.inl rfl,rfl⟩
   | cons _ _=>simp [zok] at h
  | false=>simp [zok] at h
 | _=>simp [zok] at h
theorem zrow_rep {w:World} {D:CS}:∀ (z:List V) (rd:Nat→Option Value) (k:Nat),z.all zok=true→(∀ j y,z[j]? = some y→rd (k+j)=some (zv y))→RepRow w D rd z k emp
 | [],_,_,_,_=>rfl
 | x :: z,rd,k,h,hr=>by
  simp only [List.all_cons,Bool.and_eq_true] at h
  refine ⟨zv x,emp,emp,by have:=hr 0 x rfl; simpa using this,zok_rep h.1,zrow_rep z rd (k+1) h.2 (fun j y hj=>?_),zW emp,(zV emp).symm⟩
  have:=hr (j+1) y (by simpa using hj)
  rw [show k+1+j=k+(j+1) by omega]
  exact this
theorem TyOk.zero {P:Program} {t:Nat} {d:TyI} (h:TyOk P t d):∃ z,(zeroValue t).run P w=.ok z w∧z.cells=(d.z.map zv).toArray:=by
 obtain ⟨i,h1,h2,h3,z,h4,h5⟩:=h.inf
 refine ⟨z,?_,by rw [← h5]⟩
 simp [zeroValue,qL1 h1,h4]
def xM (T:Nat→Option TyI) (o:Oper) (t:Nat) (e:Env):Option Env:=
 (T t).bind fun d=>({e with nx:=e.nx+1,ob:=(e.nx,.box true d.z) :: e.ob}:Env).putO o.dst (.pl (.one (.ref e.nx [])))
theorem qE6 {w':World} {D':CS} {hs':Nat→Value} {nx:Nat} {v:V} {ob:List (Nat×V)} {u:Value} (hu:hs' nx=u) (hh:hdr u=true:=by rfl):SlRep w' D' hs' (nx+1) ((nx,v) :: ob) (.pl (.one (.ref nx []))) u:=
 ⟨Nat.lt_succ_self _,fun v' x h1 h2=>⟨_,rfl,by show hdr (hs' nx)=true; rw [hu]; exact hh,hu⟩⟩
theorem evAlloc_ok (h:StD c e a w D hs S) {t:Nat} (ho:o.op=.alloc t) (he:xM X.T o t e=some e'):Did X.P c o a w e':=by
 obtain ⟨d,h1,h2⟩:=zbi he
 have hd:=X.hT _ _ h1
 obtain ⟨z,hz1,hz2⟩:=hd.zero (w:=w)
 obtain ⟨hs',S',g1,g2,g3⟩:=h.newBox (xs:=d.z) (us:=d.z.map zv) (T:=emp) (S0:=emp) (zrow_rep d.z _ 0 hd.zo (fun j y hj=>by simp [hj])) (by simp) (zW S) (zD emp) (fun _ _ q=>q.elim) (fun _ _ q=>q.elim) (zW D) t
 refine ⟨.pointer (some (ad w.heap.size 0)),_,.inl ?_,D,hs',S',g1.putO h2 (qE6 g2)⟩
 simp [execOp,ho,Instr.alloc,hz1,newVar,newRow,newObj,Sem.run,hz2,ad]
def Ag.cells:Ag C→List C
 | .one k=>[k]
 | .agg cs=>cs
def uG (o:Oper) (x:Operand) (e:Env):Option Env:=(e.val x).bind fun
 | .pl g=>(e.takes g.cells).bind fun q=>({q.2 with nx:=q.2.nx+1,ob:=(q.2.nx,.box true q.1) :: q.2.ob}:Env).putO o.dst (.pl (.one (.ref q.2.nx [])))
 | _=>none
theorem AgRep.cells {nx:Nat} {ob:List (Nat×V)} {g:Ag C} {u:Value} (h:AgRep w D hs nx ob g u) (h1:∀ k,g=.one k→u.oneCell'=true):∃ us:List Value,u.cells=us.toArray∧CsRep w D hs nx ob g.cells us:=by
 cases g with
 | one k=>exact ⟨[u],Go.Lib.cells_one (h1 k rfl),u,[],rfl,h,rfl⟩
 | agg cs =>
  obtain ⟨us,rfl,h2⟩:=h
  exact ⟨us,rfl,h2⟩
theorem AgRep.cells' (h:StD c e a w D hs S) {g:Ag C} {u:Value} (hg:AgRep w D hs e.nx e.ob g u) {q:List V×Env} (hq:e.takes g.cells=some q):∃ us:List Value,u.cells=us.toArray∧CsRep w D hs e.nx e.ob g.cells us:=by
 refine hg.cells (fun k hk=>?_)
 subst hk
 obtain ⟨xs,e1⟩:=q
 obtain ⟨S1,S',_,_,h3,_⟩:=StD.takes [k] h hq ⟨u,[],rfl,hg,rfl⟩
 exact h3 u (by simp)
theorem evBox_ok (h:StD c e a w D hs S) {t:Nat} {x:Operand} (ho:o.op=.box t x) (he:uG o x e=some e'):Did X.P c o a w e':=by
 obtain ⟨s,h1,h2⟩:=zbi he
 cases s with
 | tup _=>cases h2
 | pl g =>
  obtain ⟨⟨xs,e1⟩,h3,h4⟩:=zbi h2
  obtain ⟨us,k1,k2⟩:=AgRep.cells' h (h.val h1) h3
  obtain ⟨S1,S',f1,f2,f3,f4,f5,f6,f7,_⟩:=StD.takes g.cells h h3 k2
  obtain ⟨hs',S2,g1,g2,g3⟩:=f4.newBox f1 f2 f5 f6 h.Ss h.ob.blt (yR h.dj f6) t
  refine ⟨.pointer (some (ad w.heap.size 0)),_,.inl ?_,D,hs',S2,g1.putO h4 (qE6 g2)⟩
  simp [execOp,ho,Instr.box,newVar,newRow,newObj,Sem.run,k1,ad]
end
end Go.TV
namespace Go.TV
theorem RepRow.split {w:World} {D:CS} {rd:Nat→Option Value}:∀ (r s:List V) (k:Nat) (S:CS),RepRow w D rd (r++s) k S→∃ S1 S2,RepRow w D rd r k S1∧RepRow w D rd s (k+r.length) S2∧dj S1 S2∧S=cup S1 S2
 | [],s,k,S,h=>⟨emp,S,rfl,by simpa using h,zW S,(jE S).symm⟩
 | v :: r,s,k,S,h=>by
  obtain ⟨u,S1,S2,h1,h2,h3,h4,rfl⟩:=h
  obtain ⟨T1,T2,g1,g2,g3,rfl⟩:=RepRow.split r s (k+1) S2 h3
  refine ⟨cup S1 T1,T2,⟨u,S1,T1,h1,h2,g1,dj_l h4,rfl⟩,?_,qV (zE5 h4) g3,(kY _ _ _).symm⟩
  rw [List.length_cons,show k+(r.length+1)=k+1+r.length by omega]
  exact g2
theorem RepRow.join {w:World} {D:CS} {rd:Nat→Option Value}:∀ (r s:List V) (k:Nat) (S1 S2:CS),RepRow w D rd r k S1→RepRow w D rd s (k+r.length) S2→dj S1 S2→RepRow w D rd (r++s) k (cup S1 S2)
 | [],s,k,S1,S2,h1,h2,_=>by
  rw [show S1=emp from h1,jE]
  simpa using h2
 | v :: r,s,k,S1,S2,h,h2,hj=>by
  obtain ⟨u,T1,T2,g1,g2,g3,g4,rfl⟩:=h
  refine ⟨u,T1,cup T2 S2,g1,g2,RepRow.join r s (k+1) T2 S2 g3 (by rw [List.length_cons,show k+(r.length+1)=k+1+r.length by omega] at h2; exact h2) (vZ hj),dj_cup g4 (kG hj),kY _ _ _⟩
theorem RepRows.of_flat {w:World} {D:CS} {rd:Nat→Option Value} {n b o:Nat}:∀ (rows:List (List V)) (k:Nat) (S:CS),RepRow w D rd rows.flatten (k * n) S→(∀ r ∈ rows,r.length=n) →
  (∀ j,k * n≤j→j < (k+rows.length) * n→w.cell? (ad b (o+j))=rd j)→RepRows w D n b o rows k S
 | [],_,_,h,_,_=>h
 | r :: rows,k,S,h,hl,hc=>by
  simp only [List.flatten_cons] at h
  obtain ⟨S1,S2,g1,g2,g3,rfl⟩:=RepRow.split r rows.flatten (k * n) S h
  have hr:=hl r (by simp)
  have e1:(k+1) * n=k * n+n:=by rw [Nat.add_mul,Nat.one_mul]
  have e2:(k+(r :: rows).length) * n=k * n+n+rows.length * n:=by rw [List.length_cons,Nat.add_mul,Nat.add_mul,Nat.one_mul]; omega
  refine ⟨S1,S2,hr,?_,RepRows.of_flat rows (k+1) S2 (by rw [e1,← hr] ; rw [hr] at g2 ⊢; exact g2) (fun q hq=>hl q (by simp [hq])) (fun j h1 h2=>hc j (by omega) ?_),g3,rfl⟩
  ·refine RepRow.shift r rd _ (k * n) 0 S1 g1 (fun q hq=>?_)
   rw [Nat.zero_add]
   show w.cell? (ad b (o+k * n+q))=_
   rw [Nat.add_assoc]
   exact hc (k * n+q) (by omega) (by omega)
  ·rw [e2]
   have:(k+1+rows.length) * n=k * n+n+rows.length * n:=by rw [Nat.add_mul,Nat.add_mul,Nat.one_mul]
   omega
section
variable {gG:GG} {c:Ctx gG} {e e':Env} {a:Act} {w:World} {D:CS} {hs:Nat→Value} {S:CS} {X:Cfg} {o:Oper}
theorem StD.newList (h:StD c e a w D hs S) {n:Nat} {rows:List (List V)} {us:List Value} {T:CS} {S0:CS} {cap:Nat} (hx:RepRow w D (fun k=>us[k]?) rows.flatten 0 T) (hrl:∀ r ∈ rows,r.length=n)
  (hl:us.length=cap * n) (hc:rows.length≤cap) (hT:TV.dj T S) (h0:sub T S0)
  (hS0:∀ b o,S0 b o→c.S0 b o∨c.w0.heap.size≤b) (hb0:∀ b o,S0 b o→b < w.heap.size) (hDT:TV.dj T D) (t:Nat) :
  ∃ hs' S',StD c {e with nx:=e.nx+1,ob:=(e.nx,.list true n rows) :: e.ob} a (w.alloc (.cells us.toArray t)) D hs' S'∧hs' e.nx=.slice (some (ad w.heap.size 0)) rows.length cap ∧
   (∀ i,i≠e.nx→hs' i=hs i):=by
 have hf:=zU1 w (.cells us.toArray t)
 have h':=h.world hf
 have hflat:∀ (rows:List (List V)),(∀ r ∈ rows,r.length=n)→rows.flatten.length=rows.length * n:=by
  intro rows
  induction rows with
  | nil=>intro _; simp
  | cons r rs ih =>
   intro hr
   rw [List.flatten_cons,List.length_append,hr r (by simp),ih (fun q hq=>hr q (by simp [hq])),List.length_cons,Nat.add_mul,Nat.one_mul]
   omega
 have hfl:=hflat rows hrl
 have hcn:rows.length * n≤cap * n:=Nat.mul_le_mul_right n hc
 have hr:Rep (w.alloc (.cells us.toArray t)) D (.list true n rows) (.slice (some (ad w.heap.size 0)) rows.length cap) (cup (rng w.heap.size 0 (cap * n)) T):=by
  refine .inr ⟨w.heap.size,0,cap,T,rfl,hc,?_,?_,?_,rfl⟩
  ·refine RepRows.of_flat (rd:=fun k=>us[k]?) rows 0 T ?_ hrl (fun j _ hj=>?_)
   ·rw [Nat.zero_mul]
    exact RepRow.frame (zD D) (hf.sameOn (qR D) h.Dl) _ _ _ 0 T hx (hf.sameOn (qR T) (fun b o q=>hb0 b o (h0 b o q))) (fun j _ hj=>rfl)
   ·rw [Nat.zero_add,zL2]
    simp
  ·intro k hk
   rw [Nat.zero_add,zL2,qI0]
   exact ⟨⟨us[k]'(by omega),by simp [show k < us.length by omega]⟩,rfl⟩
  ·rintro x y ⟨rfl,_,_⟩ q
   have:=hb0 _ _ (h0 _ _ q)
   omega
 have:=h'.obj hr (qV (fun x y p q=>by have:=h.ob.blt x y q; have:=p.1; omega) hT) (qV (fun x y p q=>by have:=h.Dl x y q; have:=p.1; omega) hDT)
  (fun b o q=>q.elim (fun q=>.inr (by rw [q.1]; exact h.fr.size)) (fun q=>hS0 b o (h0 b o q)))
 exact ⟨_,_,this,by simp,fun i hi=>by simp [hi]⟩
def Env.newListO (e:Env) (o:Oper) (n:Nat) (rows:List (List V)):Option Env:=
 ({e with nx:=e.nx+1,ob:=(e.nx,.list true n rows) :: e.ob}:Env).putO o.dst (.pl (.one (.ref e.nx [])))
def vO (T:Nat→Option TyI) (o:Oper) (t:Nat) (l k:Operand) (e:Env):Option Env:=
 (T t).bind fun d=>match d.kd with
  | .slice el=>(T el).bind fun de=>(e.int l).bind fun n=>(e.int k).bind fun m =>
   if 0≤n∧n≤m∧m≤1099511627776∧de.bytes≤256∧de.size≠0 then e.newListO o de.size (List.replicate n.toNat de.z) else none
  | _=>none
theorem zeros_get {α:Type} [Inhabited α] {z:Array α} (n i:Nat) (hi:i < n) (hz:z.size≠0):((Array.range n).map (z[· % z.size]!))[i]? = z[i % z.size]?:=by
 have:i % z.size < z.size:=Nat.mod_lt _ (by omega)
 simp [hi,this]
theorem zrows_rep {w:World} {D:CS} {z:List V} {rd:Nat→Option Value} (hz:z.all zok=true):∀ (m k:Nat),(∀ j,j < m * z.length→rd (k+j)=(z[j % z.length]?).map zv)→RepRow w D rd (List.replicate m z).flatten k emp
 | 0,_,_=>rfl
 | m+1,k,h=>by
  rw [List.replicate_succ,List.flatten_cons]
  have e1:(m+1) * z.length=z.length+m * z.length:=by rw [Nat.add_mul,Nat.one_mul,Nat.add_comm]
  have h1:RepRow w D rd z k emp:=zrow_rep z rd k hz (fun j y hj=>by
   have hl:=(List.getElem?_eq_some_iff.1 hj).1
   have:=h j (by omega)
   rw [Nat.mod_eq_of_lt hl,hj] at this
   exact this)
  have h2:RepRow w D rd (List.replicate m z).flatten (k+z.length) emp:=zrows_rep hz m (k+z.length) (fun j hj=>by
   have:=h (z.length+j) (by omega)
   rw [← Nat.add_assoc,Nat.add_mod_left] at this
   exact this)
  have:=RepRow.join z _ k emp emp h1 h2 (zW emp)
  rwa [zV] at this
theorem w64 {n:Int} (h0 : -9223372036854775808≤n) (h1:n < 9223372036854775808):IntKind.i64.wrap n=n:=by rw [IntKind.wrap_i64]; omega
theorem run_make {P:Program} {t el:Nat} {de:TyI} {n m:Int} {k1 k2:IntKind} (hu:P.underlying t=some (.slice el)) (hde:TyOk P el de) (h0:0≤n) (h1:n≤m) (h2:m≤1099511627776) (hb:de.bytes≤256) :
  ∃ cs:Array Value,(Instr.makeSlice t (.int k1 n) (.int k2 m)).run P w=.ok (.slice (some (ad w.heap.size 0)) n.toNat m.toNat) (w.alloc (.cells cs el))∧cs.size=m.toNat * de.size ∧
   (de.size≠0→∀ j,j < m.toNat * de.size→cs[j]? = (de.z[j % de.size]?).map zv):=by
 obtain ⟨i,i1,i2,i3,z,i4,i5⟩:=hde.inf
 have hm:=w64 (n:=m) (by omega) (by omega)
 have hn:=w64 (n:=n) (by omega) (by omega)
 have hbm:¬((2:Int) ^ 48 < (i.bytes:Int) * m):=by
  have hb':(i.bytes:Int)≤256:=by rw [i3]; omega
  have:(i.bytes:Int) * m≤256 * 1099511627776:=Int.mul_le_mul hb' h2 (by omega) (by omega)
  omega
 have hask:∀ q w',(askRoom q).run P w'=.ok () w':=fun q w'=>by unfold askRoom; split <;> rfl
 have hz:z.cells.size=de.size:=by
  have:=congrArg List.length i5
  simp [hde.zl] at this
  exact this
 refine ⟨(Array.range (m.toNat * de.size)).map ((if m.toNat * de.size=0 then #[] else z.cells)[· % (if m.toNat * de.size=0 then #[] else z.cells).size]!),?_,by simp,fun hs j hj=>?_⟩
 ·have hu':=run_underlying hu w
  unfold Instr.makeSlice
  simp only [Sem.run_bind,hu',Result.andThen_ok,asInt,asIntOf,Sem.run_pure,qL1 i1,hm,hn]
  rw [if_neg (by simp only [gt_iff_lt,Bool.or_eq_true,decide_eq_true_eq]; omega)]
  simp only [Sem.run_bind,hask,Result.andThen_ok,zD2 hde]
  by_cases hq:m.toNat * de.size=0
  ·simp [hq,newRow,newObj,Sem.run,ad]
  ·simp [hq,zeroValue,qL1 i1,i4,newRow,newObj,Sem.run,ad]
 ·rw [if_neg (by omega),zeros_get _ j hj (by omega),hz]
  have:z.cells[j % de.size]? = z.cells.toList[j % de.size]?:=by simp
  rw [this,i5,List.getElem?_map]
theorem evMake_ok (h:StD c e a w D hs S) {t:Nat} {l k:Operand} (ho:o.op=.makeSlice t l k) (he:vO X.T o t l k e=some e'):Did X.P c o a w e':=by
 obtain ⟨d,h1,h2⟩:=zbi he
 split at h2
 case h_2=>cases h2
 rename_i el hk
 obtain ⟨de,h3,h2⟩:=zbi h2
 obtain ⟨n,h4,h2⟩:=zbi h2
 obtain ⟨m,h5,h2⟩:=zbi h2
 split at h2
 case isFalse=>cases h2
 rename_i hb
 obtain ⟨b1,b2,b3,b4,b5⟩:=hb
 have hde:=X.hT _ _ h3
 obtain ⟨k1,hn⟩:=h.int h4
 obtain ⟨k2,hm⟩:=h.int h5
 obtain ⟨cs,g1,g2,g3⟩:=run_make (w:=w) (k1:=k1) (k2:=k2) (xC (X.hT _ _ h1) hk) hde b1 b2 b3 b4
 have hle:n.toNat * de.size≤m.toNat * de.size:=Nat.mul_le_mul_right _ (by omega)
 obtain ⟨hs',S',f1,f2,f3⟩:=h.newList (n:=de.size) (rows:=List.replicate n.toNat de.z) (us:=cs.toList) (T:=emp) (S0:=emp) (cap:=m.toNat)
  (zrows_rep hde.zo n.toNat 0 (fun j hj=>by
   rw [hde.zl] at hj ⊢
   rw [Nat.zero_add]
   have:=g3 b5 j (by omega)
   simpa using this))
  (fun r hr=>by rw [List.eq_of_mem_replicate hr]; exact hde.zl) (by simpa using g2) (by simp; omega) (zW S) (zD emp) (fun _ _ q=>q.elim) (fun _ _ q=>q.elim) (zW D) el
 refine ⟨_,_,.inl ?_,D,hs',S',f1.putO h2 (qE6 f2)⟩
 simp [execOp,ho,hn,hm,g1]
end
end Go.TV
namespace Go.TV
def over {α:Type} (off:Nat) (xs l:List α):List α:=l.take off++xs++l.drop (off+xs.length)
theorem over_get {α:Type} (off:Nat) (xs l:List α) (h:off+xs.length≤l.length) (j:Nat):(over off xs l)[j]? = if off≤j∧j < off+xs.length then xs[j - off]? else l[j]?:=by
 unfold over
 rw [List.append_assoc]
 by_cases h1:j < off
 ·rw [List.getElem?_append_left (by simp; omega),if_neg (by omega),List.getElem?_take_of_lt h1]
 ·rw [List.getElem?_append_right (by simp; omega)]
  have e1:(l.take off).length=off:=by simp; omega
  rw [e1]
  by_cases h2:j < off+xs.length
  ·rw [List.getElem?_append_left (by omega),if_pos ⟨by omega,h2⟩]
  ·rw [List.getElem?_append_right (by omega),if_neg (by omega),List.getElem?_drop]
   congr 1
   omega
theorem over_length {α:Type} (off:Nat) (xs l:List α) (h:off+xs.length≤l.length):(over off xs l).length=l.length:=by
 simp [over]
 omega
theorem fold_get (off:Nat):∀ (vs:List Value) (k:Nat) (cells:Array Value) (j:Nat),off+k+vs.length≤cells.size →
  ((vs.zipIdx k).foldl (fun cs q=>cs.setIfInBounds (off+q.2) q.1) cells)[j]? = if off+k≤j∧j < off+k+vs.length then vs[j - (off+k)]? else cells[j]?
 | [],k,cells,j,_=>by simp; omega
 | v :: vs,k,cells,j,h=>by
  simp only [List.length_cons] at h
  simp only [List.zipIdx_cons,List.foldl_cons]
  rw [fold_get off vs (k+1) _ j (by simp; omega)]
  by_cases h1:off+k=j
  ·subst h1
   rw [if_neg (by omega),if_pos (by simp),Array.getElem?_setIfInBounds_self_of_lt (by omega)]
   simp
  ·by_cases h2:off+k≤j∧j < off+k+(vs.length+1)
   ·rw [if_pos (by omega),if_pos (by simpa using h2)]
    rw [show j - (off+k)=(j - (off+(k+1)))+1 by omega]
    simp
   ·rw [if_neg (by omega),if_neg (by simpa using h2),Array.getElem?_setIfInBounds_ne (by omega)]
theorem fold_over (off:Nat) (vs:Array Value) (cells:Array Value) (h:off+vs.size≤cells.size) :
  (vs.zipIdx.foldl (fun cs q=>cs.setIfInBounds (off+q.2) q.1) cells).toList=over off vs.toList cells.toList:=by
 apply List.ext_getElem?
 intro j
 rw [over_get _ _ _ (by simpa using h)]
 rw [← Array.foldl_toList,Array.toList_zipIdx,Array.getElem?_toList,fold_get off vs.toList 0 cells j (by simpa using h)]
 simp
theorem fill_cons {place:Nat→Option (Nat×Nat)} {cells:Array Value} {i:Nat} {v:Value} {rest:List (Nat×Value)} {off n:Nat} (hp:place i=some (off,n)) (hv:v.cells.size=n) (hl:off+n≤cells.size) :
  Instr.fill place cells ((i,v) :: rest)=Instr.fill place (over off v.cells.toList cells.toList).toArray rest:=by
 rw [Instr.fill,hp]
 simp only
 rw [if_neg (by simp; omega),← fold_over off v.cells cells (by omega)]
def Env.solid (e:Env):C→Bool
 | .v x=>x.alive
 | .ref i p=>match e.node i p with | some x=>x.alive | none=>false
 | .part i p _ _ _ | .addr i p _ _ _=>(e.node i p).isSome
 | .ba _=>true
 | .dead=>false
def Env.solidG (e:Env):Ag C→Bool
 | .one k=>e.solid k
 | .agg _=>true
section
variable {gG:GG} {c:Ctx gG} {e e':Env} {a:Act} {w:World} {D:CS} {hs:Nat→Value} {S:CS} {X:Cfg} {o:Oper}
theorem StD.solid (h:StD c e a w D hs S) {k:C} {u:Value} (hk:e.solid k=true) (hu:CRep w D hs e.nx e.ob k u):u.oneCell'=true:=by
 cases k with
 | v x=>exact Rep.oneCell hu hk
 | ref i p =>
  simp only [Env.solid] at hk
  split at hk
  ·rename_i x hx
   obtain ⟨v,h1,h2⟩:=h.lnode hx
   obtain ⟨u0,g1,_,rfl⟩:=hu.2 v x h1 h2
   obtain ⟨u1,Sx,g2,g3,_⟩:=h.node h1 h2
   rw [g1] at g2
   injection g2 with g2
   subst g2
   exact g3.oneCell hk
  ·cases hk
 | part i p n lo hi =>
  obtain ⟨x,hx⟩:=Option.isSome_iff_exists.1 hk
  obtain ⟨v,h1,h2⟩:=h.lnode hx
  obtain ⟨u0,g1,_,_,_,_,_,_,_,_,_,_,_,rfl,_⟩:=hu.2 v x h1 h2
  rfl
 | addr i p n r j =>
  obtain ⟨x,hx⟩:=Option.isSome_iff_exists.1 hk
  obtain ⟨v,h1,h2⟩:=h.lnode hx
  obtain ⟨u0,g1,_,_,_,_,rfl⟩:=hu.2 v x h1 h2
  rfl
 | ba row=>obtain ⟨_,_,rfl,_⟩:=hu; rfl
 | dead=>cases hk
theorem StD.cellsG (h:StD c e a w D hs S) {g:Ag C} {u:Value} (hk:e.solidG g=true) (hu:AgRep w D hs e.nx e.ob g u):∃ us:List Value,u.cells=us.toArray∧CsRep w D hs e.nx e.ob g.cells us:=
 hu.cells (fun k hg=>by subst hg; exact h.solid hk hu)
theorem CsRep.append {nx:Nat} {ob:List (Nat×V)}:∀ (xs ys:List C) (us vs:List Value),CsRep w D hs nx ob xs us→CsRep w D hs nx ob ys vs→CsRep w D hs nx ob (xs++ys) (us++vs)
 | [],ys,us,vs,h,k=>by rw [show us=[] from h]; exact k
 | x :: xs,ys,us,vs,h,k=>by
  obtain ⟨u,r,rfl,h1,h2⟩:=h
  exact ⟨u,r++vs,rfl,h1,CsRep.append xs ys r vs h2 k⟩
theorem CsRep.over {nx:Nat} {ob:List (Nat×V)} {off:Nat} {xs l:List C} {us vs:List Value} (h:CsRep w D hs nx ob xs us) (k:CsRep w D hs nx ob l vs):CsRep w D hs nx ob (over off xs l) (over off us vs):=by
 unfold TV.over
 rw [h.length]
 exact CsRep.append _ _ _ _ (CsRep.append _ _ _ _ (k.take off) h) (k.drop _)
def Env.parts (e:Env) (place:Nat→Option (Nat×Nat)):List (Nat×Operand)→List C→Option (List C)
 | [],l=>some l
 | (i,x) :: r,l=>(place i).bind fun q=>(e.val x).bind fun
  | .pl g=>if e.solidG g=true∧g.cells.length=q.2∧q.1+q.2≤l.length then e.parts place r (over q.1 g.cells l) else none
  | _=>none
theorem StD.parts (h:StD c e a w D hs S) {place:Nat→Option (Nat×Nat)}:∀ (ps:List (Nat×Operand)) (l l':List C) (us:List Value),e.parts place ps l=some l'→CsRep w D hs e.nx e.ob l us →
  ∃ us':List Value,Instr.fill place us.toArray (ps.map fun q=>(q.1,a.eval q.2))=some us'.toArray∧CsRep w D hs e.nx e.ob l' us'
 | [],l,l',us,h1,h2=>by
  injection h1 with h1
  subst h1
  exact ⟨us,rfl,h2⟩
 | (i,x) :: r,l,l',us,h1,h2=>by
  simp only [Env.parts] at h1
  obtain ⟨⟨off,n⟩,g1,h1⟩:=zbi h1
  obtain ⟨s,g2,h1⟩:=zbi h1
  cases s with
  | tup _=>cases h1
  | pl g =>
   simp only at h1
   split at h1
   case isFalse=>cases h1
   rename_i hc
   obtain ⟨c1,c2,c3⟩:=hc
   obtain ⟨vs,k1,k2⟩:=h.cellsG c1 (h.val g2)
   have hl:=h2.length
   have hvl:=k2.length
   obtain ⟨us',f1,f2⟩:=StD.parts h r _ l' _ h1 (k2.over h2 (off:=off))
   refine ⟨us',?_,f2⟩
   simp only [List.map_cons]
   rw [fill_cons g1 (by rw [k1]; simp; omega) (by simp; omega),k1]
   exact f1
def Ty.places (T:Nat→Option TyI) (fs:List (Nat×Nat)):Option (List (Nat×Nat)):=fs.mapM fun q=>(T q.2).map fun d=>(q.1,d.size)
def xN (T:Nat→Option TyI) (o:Oper) (t:Nat) (ps:List (Nat×Operand)) (e:Env):Option Env:=
 (T t).bind fun d=>match d.kd with
  | .struct fs=>(Ty.places T fs).bind fun pl=>(e.parts (pl[·]?) ps (d.z.map C.v)).bind fun l=>e.putO o.dst (.pl (.agg l))
  | _=>none
theorem places_ok (X:Cfg):∀ (FS:List Field) (pl:List (Nat×Nat)),Ty.places X.T (FS.map fun f=>(f.offset,f.type))=some pl→FS.mapM (fun f=>(X.P.info? f.type).map fun i=>(f.offset,i.size))=some pl
 | [],pl,h=>by
  simp [Ty.places] at h
  subst h
  rfl
 | F :: FS,pl,h=>by
  simp only [Ty.places,List.map_cons,List.mapM_cons,Option.bind_eq_bind,Option.pure_def] at h ⊢
  obtain ⟨q,h1,h⟩:=zbi h
  obtain ⟨d,h2,h3⟩:=Option.map_eq_some_iff.1 h1
  obtain ⟨r,h4,h5⟩:=zbi h
  injection h5 with h5
  subst h5
  subst h3
  obtain ⟨i,i1,i2,_⟩:=(X.hT _ _ h2).inf
  have:=places_ok X FS r h4
  simp only [i1,Option.map_some,Option.bind_some,this,i2]
theorem zC_rep {nx:Nat} {ob:List (Nat×V)}:∀ (z:List V),z.all zok=true→CsRep w D hs nx ob (z.map C.v) (z.map zv)
 | [],_=>rfl
 | x :: z,h=>by
  simp only [List.all_cons,Bool.and_eq_true] at h
  exact ⟨zv x,z.map zv,rfl,zok_rep h.1,zC_rep z h.2⟩
theorem evBuild_ok (h:StD c e a w D hs S) {t:Nat} {ps:Array (Nat×Operand)} (ho:o.op=.build t ps) (he:xN X.T o t ps.toList e=some e'):Did X.P c o a w e':=by
 obtain ⟨d,h1,h2⟩:=zbi he
 split at h2
 case h_2=>cases h2
 rename_i fs hk
 obtain ⟨pl,h3,h2b⟩:=zbi h2
 obtain ⟨l,h4,h2c⟩:=zbi h2b
 have hd:=X.hT _ _ h1
 obtain ⟨FS,hu,hfs⟩:=zF6 hd hk
 rw [← hfs] at h3
 have hpl:=places_ok X _ _ h3
 obtain ⟨z,hz1,hz2⟩:=hd.zero (w:=w)
 obtain ⟨us,g1,g2⟩:=h.parts ps.toList _ _ _ h4 (zC_rep d.z hd.zo)
 refine h.did (u:=.agg us.toArray) ?_ h2c ⟨us,rfl,g2⟩
 have hr:=run_places w FS.toList pl hpl
 have hb:(Instr.build t (ps.map fun q=>(q.1,a.eval q.2))).run X.P w=.ok (.agg us.toArray) w:=by
  simp [Instr.build,run_underlying hu,hz1,hz2,Array.mapM_eq_mapM_toList,hr,g1]
 simp only [execOp,ho,Sem.run_bind]
 rw [hb]
 rfl
def Env.rowsOf (e:Env) (n:Nat):Nat→List (Nat×Operand)→Option (List (List C))
 | _,[]=>some []
 | k,(i,x) :: r=>if i=k then (e.val x).bind fun
   | .pl g=>if e.solidG g=true∧g.cells.length=n then (e.rowsOf n (k+1) r).map fun l=>g.cells :: l else none
   | _=>none
  else none
theorem StD.rowsOf (h:StD c e a w D hs S) {n:Nat}:∀ (ps:List (Nat×Operand)) (k:Nat) (l:List (List C)) (cells:Array Value),e.rowsOf n k ps=some l→(k+ps.length) * n=cells.size →
  ∃ us:List Value,Instr.fill (fun i=>some (i * n,n)) cells (ps.map fun q=>(q.1,a.eval q.2))=some (cells.toList.take (k * n)++us).toArray∧CsRep w D hs e.nx e.ob l.flatten us∧us.length=ps.length * n∧l.length=ps.length∧∀ r ∈ l,r.length=n
 | [],k,l,cells,h1,h2=>by
  injection h1 with h1
  subst h1
  refine ⟨[],?_,rfl,by simp,rfl,fun r hr=>by simp at hr⟩
  simp only [List.map_nil,Instr.fill,List.append_nil]
  rw [List.take_of_length_le (by simp at h2 ⊢; omega)]
 | (i,x) :: r,k,l,cells,h1,h2=>by
  simp only [Env.rowsOf] at h1
  split at h1
  case isFalse=>cases h1
  rename_i hik
  subst hik
  obtain ⟨s,g2,h1⟩:=zbi h1
  cases s with
  | tup _=>cases h1
  | pl g =>
   simp only at h1
   split at h1
   case isFalse=>cases h1
   rename_i hc
   obtain ⟨c1,c2⟩:=hc
   obtain ⟨l',h3,rfl⟩:=Option.map_eq_some_iff.1 h1
   obtain ⟨vs,k1,k2⟩:=h.cellsG c1 (h.val g2)
   have hvl:=k2.length
   have e1:(i+(r.length+1)) * n=i * n+n+r.length * n:=by rw [Nat.add_mul,Nat.add_mul,Nat.one_mul]; omega
   have e2:(i+1+r.length) * n=i * n+n+r.length * n:=by rw [Nat.add_mul,Nat.add_mul,Nat.one_mul]
   have e3:(i+1) * n=i * n+n:=by rw [Nat.add_mul,Nat.one_mul]
   simp only [List.length_cons] at h2
   have hol:(over (i * n) vs cells.toList).length=cells.size:=by rw [over_length _ _ _ (by simp; omega)]; simp
   obtain ⟨us,f1,f2,f3,f4,f5⟩:=StD.rowsOf h r (i+1) l' (over (i * n) vs cells.toList).toArray h3 (by simp only [List.size_toArray]; omega)
   refine ⟨vs++us,?_,?_,by simp [f3]; rw [Nat.add_mul,Nat.one_mul]; omega,by simp [f4],fun q hq=>?_⟩
   ·simp only [List.map_cons]
    rw [fill_cons (off:=i * n) (n:=n) rfl (by rw [k1]; simp; omega) (by omega),k1]
    have hx:=f1
    rw [e3] at hx
    simp only at hx ⊢
    rw [hx]
    congr 2
    rw [← List.append_assoc]
    congr 1
    unfold over
    have hlen:(cells.toList.take (i * n)++vs).length=i * n+n:=by simp; omega
    rw [← hlen,List.take_left]
   ·simp only [List.flatten_cons]
    exact CsRep.append _ _ _ _ k2 f2
   ·rcases List.mem_cons.1 hq with rfl | hq
    ·exact c2
    ·exact f5 q hq
def kR {α:Type} (n:Nat):Nat→List α→List (List α)
 | 0,_=>[]
 | m+1,xs=>xs.take n :: kR n m (xs.drop n)
theorem chunk_flat {α:Type} (n:Nat):∀ (m:Nat) (xs:List α),xs.length=m * n→(kR n m xs).flatten=xs∧(kR n m xs).length=m∧∀ r ∈ kR n m xs,r.length=n
 | 0,xs,h=>by
  have:xs=[]:=by rw [← List.length_eq_zero_iff]; omega
  subst this
  exact ⟨rfl,rfl,fun r hr=>by simp [kR] at hr⟩
 | m+1,xs,h=>by
  have e1:(m+1) * n=n+m * n:=by rw [Nat.add_mul,Nat.one_mul,Nat.add_comm]
  obtain ⟨h1,h2,h3⟩:=chunk_flat n m (xs.drop n) (by simp; omega)
  refine ⟨by simp [kR,h1],by simp [kR,h2],fun r hr=>?_⟩
  rcases List.mem_cons.1 hr with rfl | hr
  ·simp; omega
  ·exact h3 r hr
def qC (T:Nat→Option TyI) (o:Oper) (t len:Nat) (ps:List (Nat×Operand)) (e:Env):Option Env:=
 (T t).bind fun d=>match d.kd with
  | .slice el=>(T el).bind fun de=>if len=ps.length∧len * de.size≤16777216 then
    (e.rowsOf de.size 0 ps).bind fun l=>(e.takes l.flatten).bind fun q=>q.2.newListO o de.size (kR de.size len q.1) else none
  | _=>none
theorem evBuildSlice_ok (h:StD c e a w D hs S) {t len:Nat} {ps:Array (Nat×Operand)} (ho:o.op=.buildSlice t len ps) (he:qC X.T o t len ps.toList e=some e'):Did X.P c o a w e':=by
 obtain ⟨d,h1,h2⟩:=zbi he
 split at h2
 case h_2=>cases h2
 rename_i el hk
 obtain ⟨de,h3,h2⟩:=zbi h2
 split at h2
 case isFalse=>cases h2
 rename_i hc
 obtain ⟨c1,c2⟩:=hc
 obtain ⟨l,h4,h2⟩:=zbi h2
 obtain ⟨⟨xs,e1⟩,h5,h6⟩:=zbi h2
 have hd:=X.hT _ _ h1
 have hde:=X.hT _ _ h3
 have hu:=run_underlying (xC hd hk) w
 obtain ⟨z,hz1,hz2⟩:=hde.zero (w:=w)
 obtain ⟨us,g1,g2,g3,g4,g5⟩:=h.rowsOf ps.toList 0 l ((Array.range (len * de.size)).map ((if len * de.size=0 then #[] else z.cells)[· % (if len * de.size=0 then #[] else z.cells).size]!)) h4 (by rw [Nat.zero_add,← c1]; simp)
 obtain ⟨S1,S',f1,f2,f3,f4,f5,f6,f7,f8,_⟩:=StD.takes l.flatten h h5 g2
 have hxl:xs.length=len * de.size:=by rw [f2,g3,c1]
 obtain ⟨k1,k2,k3⟩:=chunk_flat de.size len xs hxl
 obtain ⟨hs',S2,p1,p2,p3⟩:=f4.newList (n:=de.size) (rows:=kR de.size len xs) (us:=us) (cap:=len) (by rw [k1]; exact f1) k3 (by rw [g3,c1]) (by omega) f5 f6 h.Ss h.ob.blt (yR h.dj f6) el
 refine ⟨_,_,.inl ?_,D,hs',S2,p1.putO h6 (qE6 p2)⟩
 have hb:(Instr.buildSlice t len (ps.map fun q=>(q.1,a.eval q.2))).run X.P w=.ok (.slice (some (ad w.heap.size 0)) len len) (w.alloc (.cells us.toArray el)):=by
  unfold Instr.buildSlice
  simp only [Sem.run_bind,hu,Result.andThen_ok,zD2 hde]
  rw [if_neg (by omega)]
  by_cases hq:len * de.size=0
  ·simp only [hq,if_true,Sem.run_pure,Result.andThen_ok,Sem.run_bind] at g1 ⊢
   have hr0:Array.range 0 = #[]:=rfl
   simp only [Nat.zero_mul,List.take_zero,List.nil_append,hr0,List.map_toArray,List.map_nil] at g1
   simp only [hr0,List.map_toArray,List.map_nil,Array.toList_map]
   rw [g1]
   simp [newRow,newObj,Sem.run,ad]
  ·simp only [hq,if_false,Sem.run_bind,hz1,Result.andThen_ok,Sem.run_pure] at g1 ⊢
   simp only [Nat.zero_mul,List.take_zero,List.nil_append] at g1
   simp [g1,newRow,newObj,Sem.run,ad]
 simp only [execOp,ho,Sem.run_bind]
 rw [hb,k2]
 rfl
end
end Go.TV
namespace Go.TV
theorem RepRows.dropS {w:World} {D:CS} {n b o:Nat}:∀ (l:Nat) (rs:List (List V)) (k:Nat) (S:CS),RepRows w D n b o rs k S→∃ S',RepRows w D n b o (rs.drop l) (k+l) S'∧sub S' S
 | 0,_,_,S,h=>⟨S,by simpa using h,zD S⟩
 | l+1,[],_,S,h=>⟨S,h,zD S⟩
 | l+1,r :: rs,k,S,h=>by
  obtain ⟨S1,S2,h1,h2,h3,h4,rfl⟩:=h
  obtain ⟨S',g1,g2⟩:=RepRows.dropS l rs (k+1) S2 h3
  refine ⟨S',?_,zZ g2 (yO _ _)⟩
  rw [show k+1+l=k+(l+1) by omega] at g1
  simpa using g1
theorem RepRows.takeS {w:World} {D:CS} {n b o:Nat}:∀ (l:Nat) (rs:List (List V)) (k:Nat) (S:CS),RepRows w D n b o rs k S→∃ S',RepRows w D n b o (rs.take l) k S'∧sub S' S
 | 0,_,_,_,_=>⟨emp,by simp [RepRows],fun _ _ q=>q.elim⟩
 | l+1,[],_,S,h=>⟨S,h,zD S⟩
 | l+1,r :: rs,k,S,h=>by
  obtain ⟨S1,S2,h1,h2,h3,h4,rfl⟩:=h
  obtain ⟨S',g1,g2⟩:=RepRows.takeS l rs (k+1) S2 h3
  exact ⟨cup S1 S',⟨S1,S',h1,h2,g1,zA0 h4 g2,rfl⟩,fun x y q=>q.elim .inl (fun q=>.inr (g2 x y q))⟩
theorem RepRows.shiftS {w:World} {D:CS} {n b o:Nat} (l:Nat):∀ (rs:List (List V)) (k:Nat) (S:CS),RepRows w D n b o rs (k+l) S→RepRows w D n b (o+l * n) rs k S
 | [],_,_,h=>h
 | r :: rs,k,S,h=>by
  obtain ⟨S1,S2,h1,h2,h3,h4,h5⟩:=h
  refine ⟨S1,S2,h1,?_,RepRows.shiftS l rs (k+1) S2 (by rw [show k+1+l=k+l+1 by omega]; exact h3),h4,h5⟩
  rw [show o+l * n+k * n=o+(k+l) * n by rw [Nat.add_mul]; omega]
  exact h2
theorem RepRow.vals {w:World} {D:CS} {rd:Nat→Option Value}:∀ (r:List V) (k:Nat) (S:CS),RepRow w D rd r k S→∃ us:List Value,us.length=r.length∧(∀ j u,us[j]? = some u→rd (k+j)=some u)
 | [],_,_,_=>⟨[],rfl,fun j u h=>by simp at h⟩
 | v :: r,k,S,h=>by
  obtain ⟨u,S1,S2,h1,h2,h3,h4,h5⟩:=h
  obtain ⟨us,g1,g2⟩:=RepRow.vals r (k+1) S2 h3
  refine ⟨u :: us,by simp [g1],fun j x hj=>?_⟩
  cases j with
  | zero=>simp at hj; subst hj; exact h1
  | succ j =>
   have:=g2 j x (by simpa using hj)
   rw [show k+(j+1)=k+1+j by omega]
   exact this
theorem RepRows.flat {w:World} {D:CS} {n b o:Nat}:∀ (rs:List (List V)) (k:Nat) (S:CS),RepRows w D n b o rs k S →
  RepRow w D (fun j=>w.cell? (ad b (o+j))) rs.flatten (k * n) S∧rs.flatten.length=rs.length * n∧∀ r ∈ rs,r.length=n
 | [],_,_,h=>⟨h,by simp,fun r hr=>by simp at hr⟩
 | r :: rs,k,S,h=>by
  obtain ⟨S1,S2,h1,h2,h3,h4,rfl⟩:=h
  obtain ⟨g1,g2,g3⟩:=RepRows.flat rs (k+1) S2 h3
  refine ⟨?_,?_,fun q hq=>?_⟩
  ·rw [List.flatten_cons]
   refine RepRow.join r rs.flatten (k * n) S1 S2 (RepRow.shift r _ _ 0 (k * n) S1 h2 (fun q _=>?_)) ?_ h4
   ·simp only [rdm,Nat.zero_add]
    rw [Nat.add_assoc]
   ·rw [h1]
    rw [Nat.add_mul,Nat.one_mul] at g1
    exact g1
  ·rw [List.flatten_cons,List.length_append,g2,h1,List.length_cons,Nat.add_mul,Nat.one_mul]
   omega
  ·rcases List.mem_cons.1 hq with rfl | hq
   ·exact h1
   ·exact g3 q hq
def Env.rows (e:Env):C→Option (Nat×List (List V))
 | .v (.list _ n rows)=>some (n,rows)
 | .ref i p=>match e.node i p with | some (.list true n rows)=>some (n,rows) | _=>none
 | .part i p m lo hi=>match e.node i p with | some (.list true n rows)=>if n=m then some (n,(rows.drop lo).take (hi - lo)) else none | _=>none
 | _=>none
section
variable {gG:GG} {c:Ctx gG} {e e':Env} {a:Act} {w:World} {D:CS} {hs:Nat→Value} {S:CS} {X:Cfg} {o:Oper}
theorem StD.rows (h:StD c e a w D hs S) {k:C} {n:Nat} {rows:List (List V)} {u:Value} (hk:e.rows k=some (n,rows)) (hu:CRep w D hs e.nx e.ob k u) :
  ∃ A cap,u=.slice A rows.length cap∧(((A=none∨∃ y,k=.v y)∧rows=[])∨∃ b o S1,A=some (ad b o)∧RepRows w D n b o rows 0 S1∧sub S1 S∧sub (rng b o (rows.length * n)) (cup D S)):=by
 cases k with
 | v y =>
  cases y with
  | list own m rs =>
   injection hk with hk
   injection hk with h1 h2
   subst h1
   subst h2
   rcases hu with ⟨rfl,q,_⟩ | ⟨b,o,cap,S1,rfl,h3,h4,h5⟩
   ·obtain ⟨A,rfl⟩:=zK8 q
    exact ⟨A,0,rfl,.inl ⟨.inr ⟨_,rfl⟩,rfl⟩⟩
   ·refine ⟨_,cap,rfl,.inr ⟨b,o,S1,rfl,h4,?_⟩⟩
    have hcn:rs.length * m≤cap * m:=Nat.mul_le_mul_right m h3
    cases own with
    | true =>
     obtain ⟨_,_,h6⟩:=h5
     have:=emp_r h6
     subst this
     refine ⟨fun _ _ q=>q.elim,fun x y q=>?_⟩
     have:(rng b o (cap * m)) x y:=⟨q.1,q.2.1,by have:=q.2.2; omega⟩
     rw [emp_l h6] at this
     exact this.elim
    | false=>obtain ⟨rfl,_,h6⟩:=h5; exact ⟨fun _ _ q=>q.elim,fun x y q=>.inl (h6 x y q)⟩
  | _=>cases hk
 | ref i p =>
  simp only [Env.rows] at hk
  split at hk
  case h_2=>cases hk
  rename_i m rs hn
  injection hk with hk
  injection hk with h1 h2
  subst h1
  subst h2
  obtain ⟨v,k1,k2⟩:=h.lnode hn
  obtain ⟨u1,g1,_,rfl⟩:=hu.2 v _ k1 k2
  obtain ⟨u2,Sx,k3,k4,k5⟩:=h.node k1 k2
  rw [g1] at k3
  injection k3 with k3
  subst k3
  rcases k4 with ⟨rfl,hx,_⟩ | ⟨b,o,cap,S1,hx,h3,h4,_,_,rfl⟩
  ·exact ⟨none,0,yT hx,.inl ⟨.inl rfl,rfl⟩⟩
  ·have hcn:rs.length * m≤cap * m:=Nat.mul_le_mul_right m h3
   exact ⟨_,cap,hx,.inr ⟨b,o,S1,rfl,h4,fun x y q=>k5 x y (.inr q),fun x y q=>.inr (k5 x y (.inl ⟨q.1,q.2.1,by have:=q.2.2; omega⟩))⟩⟩
 | part i p m lo hi =>
  simp only [Env.rows] at hk
  split at hk
  case h_2=>cases hk
  rename_i n' rs hn
  split at hk
  case isFalse=>cases hk
  rename_i hm
  subst hm
  injection hk with hk
  injection hk with h1 h2
  subst h1
  subst h2
  obtain ⟨v,k1,k2⟩:=h.lnode hn
  obtain ⟨u1,g1,_,⟨A,len,cap,A',cap',q1,q2,q3,q4,q5,q6,q7⟩⟩:=hu.2 v _ k1 k2
  obtain ⟨u2,Sx,k3,k4,k5⟩:=h.node k1 k2
  rw [g1] at k3
  injection k3 with k3
  subst k3
  rcases k4 with ⟨rfl,hx,_⟩ | ⟨b,o,cap2,S1,hx,h3,h4,_,_,rfl⟩
  ·rw [yT hx] at q1
   injection q1 with r1 r2 r3
   subst r1
   subst r2
   have:hi - lo=0:=by omega
   rw [this] at q6 ⊢
   rcases q7 with ⟨_,rfl,_⟩ | ⟨_,_,_,q8,_⟩
   ·exact ⟨none,cap',by rw [q6]; simp,.inl ⟨.inl rfl,by simp⟩⟩
   ·cases q8
  ·rw [hx] at q1
   injection q1 with r1 r2 r3
   subst r2
   subst r3
   have hlen:((rs.drop lo).take (hi - lo)).length=hi - lo:=by simp; omega
   rcases q7 with ⟨q7,_,_⟩ | ⟨b',o1,o2,q8,q9,q10⟩
   ·rw [q7] at r1
    cases r1
   ·rw [q8] at r1
    injection r1 with r1
    have eb:b=b':=by injection r1
    have eo:o=o1:=by injection r1
    subst eb
    subst eo
    subst q9
    by_cases hz:hi - lo=0
    ·refine ⟨_,cap',by rw [q6,hlen],.inr ⟨b,o2,emp,rfl,?_,fun _ _ q=>q.elim,fun x y q=>?_⟩⟩
     ·rw [hz]
      simp [RepRows]
     ·rw [hlen,hz,Nat.zero_mul] at q
      have h1:=q.2.2
      have h2:=q.2.1
      omega
    ·obtain ⟨T1,t1,t2⟩:=RepRows.dropS lo rs 0 S1 h4
     obtain ⟨T2,t3,t4⟩:=RepRows.takeS (hi - lo) _ _ _ (RepRows.shiftS lo (rs.drop lo) 0 T1 t1)
     rw [← q10 (by omega)] at t3
     refine ⟨_,cap',by rw [q6,hlen],.inr ⟨b,o2,T2,rfl,t3,fun x y q=>k5 x y (.inr (t2 x y (t4 x y q))),fun x y q=>?_⟩⟩
     rw [hlen,q10 (by omega)] at q
     refine .inr (k5 x y (.inl ⟨q.1,by have:=q.2.1; omega,?_⟩))
     have h1:lo * n'+(hi - lo) * n'≤cap2 * n':=by rw [← Nat.add_mul]; exact Nat.mul_le_mul_right _ (by omega)
     have:=q.2.2
     omega
 | _=>cases hk
def zM8:List (List V)→Option (List Int)
 | []=>some []
 | r :: rs=>match r with
  | [.sc (.int .u8 n)]=>(zM8 rs).map fun l=>n :: l
  | _=>none
def mkS (l:List Int):ByteArray:=⟨(l.map fun n=>UInt8.ofNat n.toNat).toArray⟩
theorem foldl_mkS:∀ (l:List Int) (s:ByteArray),l.foldl (fun r n=>r.push (UInt8.ofNat n.toNat)) s=s++mkS l
 | [],s=>by
  apply ByteArray.ext
  simp [mkS,ByteArray.data_append]
 | n :: l,s=>by
  rw [List.foldl_cons,foldl_mkS l]
  apply ByteArray.ext
  simp [mkS,ByteArray.data_append,ByteArray.data_push]
theorem bytes_rep {n b o':Nat}:∀ (rows:List (List V)) (k:Nat) (S1:CS) (l:List Int),RepRows w D n b o' rows k S1→zM8 rows=some l→(rows≠[]→n=1)∧l.length=rows.length ∧
  ∀ j v,(l.map (Value.int .u8))[j]? = some v→w.cell? (ad b (o'+(k+j)))=some v
 | [],k,S1,l,h,hl=>by
  injection hl with hl
  subst hl
  exact ⟨fun q=>absurd rfl q,rfl,fun j v q=>by simp at q⟩
 | r :: rs,k,S1,l,h,hl=>by
  simp only [zM8] at hl
  split at hl
  case h_2=>cases hl
  rename_i z
  obtain ⟨l',hl',rfl⟩:=Option.map_eq_some_iff.1 hl
  obtain ⟨S1,S2,h1,h2,h3,h4,h5⟩:=h
  have hn:n=1:=by simpa using h1.symm
  subst hn
  obtain ⟨g1,g2,g3⟩:=bytes_rep rs (k+1) S2 l' h3 hl'
  obtain ⟨u,T1,T2,f1,f2,_⟩:=h2
  refine ⟨fun _=>rfl,by simp [g2],fun j v hj=>?_⟩
  cases j with
  | zero =>
   simp at hj
   subst hj
   obtain ⟨rfl,_⟩:=f2
   simp only [rdm,Nat.add_zero] at f1
   rw [Nat.mul_one] at f1
   exact f1
  | succ j =>
   have:=g3 j v (by simpa using hj)
   rw [show k+1+j=k+(j+1) by omega] at this
   exact this
def yM (T:Nat→Option TyI) (t:Nat):Bool:=match T t with | some ⟨_,_,.int .u8,_⟩=>true | _=>false
def evConv (T:Nat→Option TyI) (o:Oper) (src dst:Nat) (x:Operand) (e:Env):Option Env:=
 (T src).bind fun s=>(T dst).bind fun d=>match s.kd,d.kd with
  | .int _,.int k=>(e.int x).bind fun n=>e.putO o.dst (.pl (.one (.v (.sc (.int k (k.wrap n))))))
  | .string,.string=>(e.sc x).bind fun
   | .string v=>e.putO o.dst (.pl (.one (.v (.sc (.string v)))))
   | _=>none
  | .slice es,.string=>if yM T es=true then (e.cl x).bind fun k=>(e.rows k).bind fun q=>(zM8 q.2).bind fun l=>e.putO o.dst (.pl (.one (.v (.sc (.string (mkS l)))))) else none
  | .string,.slice ed=>if yM T ed=true then (e.sc x).bind fun
   | .string v=>e.newListO o 1 (v.data.toList.map fun b=>[.sc (.int .u8 b.toNat)])
   | _=>none else none
  | _,_=>none
theorem isU8 {X:Cfg} {t:Nat} (h:yM X.T t=true):X.P.underlying t=some (.int .u8):=by
 unfold yM at h
 split at h
 ·rename_i hT
  exact zF1 (X.hT _ _ hT) rfl
 ·cases h
theorem frm_bytes (w:World) (e:TypeId) (s:ByteArray):Frm w (Lib.bytesWorld w e s) emp where
 os:=rfl
 tape:=rfl
 output:=rfl
 size:=by rw [Lib.bytesWorld_size]; omega
 blk:=fun k hk _=>Lib.bytesWorld_at_old w e s k hk
 cel:=fun b o' hb _=>⟨World.cell?_of_block (w:=w) (Lib.bytesWorld_at_old w e s b hb),World.frozen?_of_block (w:=w) (Lib.bytesWorld_at_old w e s b hb),by unfold zY4; rw [Lib.bytesWorld_at_old w e s b hb]⟩
end
end Go.TV
namespace Go.TV
section
variable {gG:GG} {c:Ctx gG} {e e':Env} {a:Act} {w:World} {D:CS} {hs:Nat→Value} {S:CS} {X:Cfg} {o:Oper}
theorem bytes_row {w:World} {D:CS} {rd:Nat→Option Value}:∀ (l:List UInt8) (k:Nat),(∀ j b,l[j]? = some b→rd (k+j)=some (.int .u8 b.toNat))→RepRow w D rd (l.map fun b=>[V.sc (.int .u8 b.toNat)]).flatten k emp
 | [],_,_=>rfl
 | b :: l,k,h=>by
  refine ⟨_,emp,emp,by have:=h 0 b rfl; simpa using this,⟨rfl,rfl,rfl⟩,bytes_row l (k+1) (fun j x hj=>?_),zW emp,(zV emp).symm⟩
  have:=h (j+1) x (by simpa using hj)
  rw [show k+1+j=k+(j+1) by omega]
  exact this
theorem evConv_ok (h:StD c e a w D hs S) {src dst:Nat} {x:Operand} (ho:o.op=.convert src dst x) (he:evConv X.T o src dst x e=some e'):Did X.P c o a w e':=by
 obtain ⟨s,h1,h2⟩:=zbi he
 obtain ⟨d,h3,h2⟩:=zbi h2
 have hsrc:=X.hT _ _ h1
 have hdst:=X.hT _ _ h3
 split at h2
 ·rename_i k1 k2 hk1 hk2
  obtain ⟨n,h4,h5⟩:=zbi h2
  obtain ⟨kz,hz⟩:=h.int h4
  refine h.did ?_ h5 (xT rfl)
  have e1:=run_underlying (zF1 hsrc hk1) w
  have e2:=run_underlying (zF1 hdst hk2) w
  simp [execOp,ho,hz,convert,e1,e2,Conv.intToInt]
 ·rename_i hk1 hk2
  obtain ⟨v,h4,h5⟩:=zbi h2
  split at h5
  ·rename_i v
   have hx:=(h.sc h4).1
   refine h.did ?_ h5 (xT rfl)
   have e1:=run_underlying (qZ hsrc hk1) w
   have e2:=run_underlying (qZ hdst hk2) w
   simp [execOp,ho,hx,convert,e1,e2]
  ·cases h5
 ·rename_i es hk1 hk2
  split at h2
  case isFalse=>cases h2
  rename_i hu8
  obtain ⟨k,h4,h2⟩:=zbi h2
  obtain ⟨⟨n,rows⟩,h5,h2⟩:=zbi h2
  obtain ⟨l,h6,h7⟩:=zbi h2
  obtain ⟨A,cap,g1,g2⟩:=h.rows h5 (h.cl h4)
  refine h.did (u:=.string (mkS l)) ?_ h7 (xT rfl)
  have hc:=run_convert_bytes_string (P:=X.P) w src dst es A rows.length cap (xC hsrc hk1) (isU8 hu8) (qZ hdst hk2)
  have hb:(Conv.bytesToString (.slice A rows.length cap)).run X.P w=.ok (.string (mkS l)) w:=by
   rcases g2 with ⟨_,rfl⟩ | ⟨b,o',S1,rfl,g3,_⟩
   ·injection h6 with h6
    subst h6
    cases A <;> rfl
   ·obtain ⟨f1,f2,f3⟩:=bytes_rep rows 0 S1 l g3 h6
    have:=run_bytesToString (P:=X.P) w (ad b o') rows.length cap l (by
     have:=run_loadCells_list (P:=X.P) w (ad b o') (l.map (Value.int .u8)) (fun j v q=>by rw [zC0]; have:=f3 j v q; rwa [Nat.zero_add] at this)
     rw [List.length_map,f2] at this
     exact this)
    rw [this,foldl_mkS]
    congr 2
  simp only [execOp,ho,g1,Sem.run_bind]
  rw [hc,hb]
  rfl
 ·rename_i ed hk1 hk2
  split at h2
  case isFalse=>cases h2
  rename_i hu8
  obtain ⟨v,h4,h5⟩:=zbi h2
  split at h5
  case h_2=>cases h5
  rename_i v
  have hx:=(h.sc h4).1
  have hr:=Lib.run_convert_string_bytes (P:=X.P) w src dst ed v (qZ hsrc hk1) (xC hdst hk2) (isU8 hu8)
  have hf:=frm_bytes w ed v
  have h':=h.world hf
  have hcs:(Lib.bytesCells w ed v).size=grownCap w v.size 0 ed:=by
   have:=grownCap_ge w v.size 0 ed
   simp only [Lib.bytesCells,Array.size_append,Array.size_map,Array.size_replicate]
   have:v.data.size=v.size:=rfl
   omega
  have hcell:∀ k,(Lib.bytesWorld w ed v).cell? (ad w.heap.size k)=(Lib.bytesCells w ed v)[k]?:=fun k=>by
   simp [World.cell?,ad,Lib.bytesWorld_at_new]
  have hfr:∀ k,k < (Lib.bytesCells w ed v).size→(Lib.bytesWorld w ed v).frozen? (ad w.heap.size k)=false:=fun k hk=>by
   show (match (Lib.bytesWorld w ed v).heap[w.heap.size]? with
    | some (.cells _ _ (lo,hi))=>decide (lo≤k) && decide (k < hi)
    | _=>false)=false
   rw [Lib.bytesWorld_at_new]
   have h1:decide ((Lib.bytesCells w ed v).size≤k)=false:=by simp; omega
   simp only [h1,Bool.false_and]
  have hge:=grownCap_ge w v.size 0 ed
  have hR:Rep (Lib.bytesWorld w ed v) D (.list true 1 (v.data.toList.map fun b=>[.sc (.int .u8 b.toNat)])) (.slice (some (ad w.heap.size 0)) v.size (grownCap w v.size 0 ed)) (cup (rng w.heap.size 0 (grownCap w v.size 0 ed * 1)) emp):=by
   have hvl:(v.data.toList.map fun b=>[V.sc (.int .u8 b.toNat)]).length=v.size:=by rw [List.length_map,Array.length_toList]; rfl
   refine .inr ⟨w.heap.size,0,grownCap w v.size 0 ed,emp,by rw [hvl],by rw [hvl]; exact hge,?_,?_,qR _,rfl⟩
   ·refine RepRows.of_flat (rd:=fun j=>(Lib.bytesWorld w ed v).cell? (ad w.heap.size j)) _ 0 emp (bytes_row v.data.toList (0 * 1) (fun j b hj=>?_)) (fun r hr=>?_) (fun j _ _=>by rw [Nat.zero_add])
    ·have hl:j < v.data.size:=by have:=(List.getElem?_eq_some_iff.1 hj).1; simpa using this
     rw [Nat.zero_mul,Nat.zero_add,hcell]
     have hbj:v.data[j]? = some b:=by simpa using hj
     rw [Lib.bytesCells,Array.getElem?_append_left (by simpa using hl),Array.getElem?_map,hbj]
     rfl
    ·obtain ⟨b,_,rfl⟩:=List.mem_map.1 hr
     rfl
   ·intro k hk
    rw [Nat.zero_add,hcell,hfr k (by omega)]
    exact ⟨⟨_,Array.getElem?_eq_getElem (by omega)⟩,rfl⟩
  have hfresh:∀ x y,cup (rng w.heap.size 0 (grownCap w v.size 0 ed * 1)) emp x y→x=w.heap.size:=fun x y q=>q.elim (fun q=>q.1) (fun q=>q.elim)
  have:=h'.obj hR (fun x y p q=>by have:=h.ob.blt x y q; have:=hfresh x y p; omega) (fun x y p q=>by have:=h.Dl x y q; have:=hfresh x y p; omega)
   (fun x y q=>.inr (by rw [hfresh x y q]; exact h.fr.size))
  refine ⟨.slice (some (ad w.heap.size 0)) v.size (grownCap w v.size 0 ed),_,.inl ?_,D,_,_,this.putO h5 (qE6 (by simp))⟩
  simp only [execOp,ho,hx,Sem.run_bind]
  rw [hr]
  rfl
 ·cases h2
def wG (T:Nat→Option TyI) (o:Oper) (t:Nat) (x:Operand) (e:Env):Option Env:=
 (T t).bind fun d=>match d.kd with
  | .slice _=>(e.cl x).bind fun k=>(e.rows k).bind fun q=>e.putO o.dst (.pl (.one (.v (.sc (.int .i64 q.2.length)))))
  | .string=>(e.sc x).bind fun
   | .string s=>e.putO o.dst (.pl (.one (.v (.sc (.int .i64 s.size)))))
   | _=>none
  | _=>none
theorem evLen_ok (h:StD c e a w D hs S) {t:Nat} {x:Operand} (ho:o.op=.call {callee:=.builtin .len,args:=#[x],argTypes:=#[t]}) (he:wG X.T o t x e=some e'):Did X.P c o a w e':=by
 obtain ⟨d,h1,h2⟩:=zbi he
 have ht:=X.hT _ _ h1
 split at h2
 ·rename_i el hk
  obtain ⟨k,h4,h2⟩:=zbi h2
  obtain ⟨⟨n,rows⟩,h5,h6⟩:=zbi h2
  obtain ⟨A,cap,g1,g2⟩:=h.rows h5 (h.cl h4)
  have hu:=run_underlying (xC ht hk) w
  refine h.did ?_ h6 (xT rfl)
  simp [execOp,ho,resolve,invoke,builtin,Builtin.len_,g1,hu,goInt]
 ·rename_i hk
  obtain ⟨v,h4,h5⟩:=zbi h2
  split at h5
  ·rename_i v
   have hx:=(h.sc h4).1
   have hu:=run_underlying (qZ ht hk) w
   refine h.did ?_ h5 (xT rfl)
   simp [execOp,ho,resolve,invoke,builtin,Builtin.len_,hx,hu,goInt]
  ·cases h5
 ·cases h2
def qD (o:Oper) (mx:Bool) (x y:Operand) (e:Env):Option Env:=
 match e.sc x,e.sc y with
 | some (.int k n),some (.int _ m)=>e.putO o.dst (.pl (.one (.v (.sc (.int k (if mx=true then (if m > n then m else n) else (if m < n then m else n)))))))
 | _,_=>none
theorem evMin_ok (h:StD c e a w D hs S) {ts:Array TypeId} {x y:Operand} (ho:o.op=.call {callee:=.builtin .min,args:=#[x,y],argTypes:=ts}) (he:qD o false x y e=some e'):Did X.P c o a w e':=by
 unfold qD at he
 split at he
 ·rename_i k n k' m h1 h2
  have hx:=(h.sc h1).1
  have hy:=(h.sc h2).1
  refine h.did ?_ he (xT rfl)
  simp [execOp,ho,resolve,invoke,builtin,Builtin.min_,Builtin.min2,hx,hy]
 ·cases he
theorem evMax_ok (h:StD c e a w D hs S) {ts:Array TypeId} {x y:Operand} (ho:o.op=.call {callee:=.builtin .max,args:=#[x,y],argTypes:=ts}) (he:qD o true x y e=some e'):Did X.P c o a w e':=by
 unfold qD at he
 split at he
 ·rename_i k n k' m h1 h2
  have hx:=(h.sc h1).1
  have hy:=(h.sc h2).1
  refine h.did ?_ he (xT rfl)
  simp [execOp,ho,resolve,invoke,builtin,Builtin.max_,Builtin.max2,hx,hy]
 ·cases he
end
end Go.TV
namespace Go.TV
theorem zS2 {w:World} {b o:Nat} {us:List Value} (h:∀ k,k < us.length→∃ v,w.cell? (ad b (o+k))=some v) {k:Nat} {u:Value} (hk:us[k]? = some u):(w.setCells b o us).cell? (ad b (o+k))=some u:=by
 have hl:=(List.getElem?_eq_some_iff.1 hk).1
 have:=World.cell?_setCells_in b us o w (fun j hj=>by obtain ⟨v,hv⟩:=h j hj; exact Option.isSome_iff_exists.2 ⟨v,hv⟩) k hl
 rw [show ad b (o+k)=⟨b,o+k,none⟩ from rfl,this]
 rw [List.getElem?_eq_getElem hl] at hk
 exact hk
theorem meta_setCell (w:World) (a:Addr) (v:Value) (r:Nat):zY4 (w.setCell a v) r=zY4 w r:=by
 unfold zY4 World.setCell
 simp only [Array.getElem?_modify]
 by_cases q:a.block=r
 ·simp only [q,if_true]
  cases h:w.heap[r]? with
  | none=>rfl
  | some o =>
   cases o with
   | cells c e f =>
    simp only [Option.map_some]
    cases a.spot <;> simp
   | _=>rfl
 ·simp [q]
theorem qM6 (b r:Nat):∀ (us:List Value) (o:Nat) (w:World),zY4 (w.setCells b o us) r=zY4 w r
 | [],_,_=>rfl
 | u :: us,o,w=>by rw [World.setCells,qM6 b r us,meta_setCell]
theorem wD {w:World} {b o:Nat} {us:List Value} {b' o':Nat} (h:¬rng b o us.length b' o'):same w (w.setCells b o us) b' o':=by
 refine ⟨World.cell?_setCells_out b us o w _ (fun h1 _=>?_),World.frozen?_setCells b us o w _,qM6 b _ us o w⟩
 by_cases q:o' < o
 ·exact .inl q
 ·right
  show o+us.length≤o'
  by_cases q2:o+us.length≤o'
  ·exact q2
  ·exact absurd ⟨h1,by omega,by omega⟩ h
theorem qG6 (b:Nat):∀ (us:List Value) (o:Nat) (w:World),(w.setCells b o us).os=w.os∧(w.setCells b o us).tape=w.tape∧(w.setCells b o us).output=w.output∧(w.setCells b o us).heap.size=w.heap.size ∧
  ∀ k,k≠b→(w.setCells b o us).heap[k]? = w.heap[k]?
 | [],_,_=>⟨rfl,rfl,rfl,rfl,fun _ _=>rfl⟩
 | u :: us,o,w=>by
  obtain ⟨h1,h2,h3,h4,h5⟩:=qG6 b us (o+1) (w.setCell ⟨b,o,none⟩ u)
  rw [World.setCells]
  exact ⟨h1,h2,h3,by rw [h4]; simp [World.setCell],fun k hk=>(h5 k hk).trans (Go.RowKit.Below.heap_setCell _ _ _ _ hk)⟩
theorem frm_set (w:World) (b o:Nat) (us:List Value):us≠[]→Frm w (w.setCells b o us) (rng b o us.length):=fun hne=>by
 obtain ⟨h1,h2,h3,h4,h5⟩:=qG6 b us o w
 refine ⟨h1,h2,h3,by rw [h4]; exact Nat.le_refl _,fun k hk hn=>h5 k (fun q=>?_),fun b' o' _ hn=>wD hn⟩
 subst q
 have:0 < us.length:=by cases us with | nil=>exact absurd rfl hne | cons _ _=>simp
 exact hn o ⟨rfl,Nat.le_refl _,by omega⟩
theorem over_eq {α:Type} (j:Nat) (xs l:List α):over j xs l=l.take j++(xs++l.drop (j+xs.length)):=by simp [over]
theorem RepRow.over {w:World} {D:CS} {rd:Nat→Option Value} {row:List V} {S:CS} {j m:Nat} (h:RepRow w D rd row 0 S) (hj:j+m≤row.length) :
  ∃ Sold G,S=cup Sold G∧dj Sold G∧(∀ k,j≤k→k < j+m→∃ u,rd k=some u) ∧
   ∀ (w':World) (D':CS) (rd':Nat→Option Value) (xs:List V) (T:CS),xs.length=m→sub D D'→sameOn w w' D→sameOn w w' G→(∀ k,k < row.length→(k < j∨j+m≤k)→rd' k=rd k) →
    RepRow w' D' rd' xs j T→dj T G→RepRow w' D' rd' (over j xs row) 0 (cup T G):=by
 have e1:row=row.take j++((row.drop j).take m++row.drop (j+m)):=by
  rw [← List.drop_drop,List.take_append_drop,List.take_append_drop]
 have e2:(row.take j).length=j:=by simp; omega
 have e3:((row.drop j).take m).length=m:=by simp; omega
 rw [e1] at h
 obtain ⟨S1,S2,h1,h2,h3,rfl⟩:=RepRow.split _ _ 0 S h
 obtain ⟨S3,S4,h4,h5,h6,rfl⟩:=RepRow.split _ _ _ S2 h2
 rw [e2] at h4 h5
 rw [e3] at h5
 simp only [Nat.zero_add] at h4 h5
 refine ⟨S3,cup S1 S4,zA5 _ _ _,dj_cup (qL (dj_l h3)) h6,fun k hk1 hk2=>?_,fun w' D' rd' xs T hl hD hd hg hr hx hT=>?_⟩
 ·obtain ⟨us,g1,g2⟩:=RepRow.vals _ _ _ h4
  have hlt:k - j < us.length:=by rw [g1,e3]; omega
  have:=g2 (k - j) _ (List.getElem?_eq_getElem hlt)
  rw [show j+(k - j)=k by omega] at this
  exact ⟨_,this⟩
 ·rw [over_eq,hl]
  have k1:RepRow w' D' rd' (row.take j) 0 S1:=RepRow.frame hD hd _ _ _ 0 S1 h1 (zQ hg (qU _ _)) (fun q _ hq=>hr q (by rw [e2] at hq; omega) (.inl (by rw [e2] at hq; omega)))
  have k2:RepRow w' D' rd' (row.drop (j+m)) (j+m) S4:=RepRow.frame hD hd _ _ _ (j+m) S4 h5 (zQ hg (yO _ _)) (fun q hq1 hq2=>hr q (by simp at hq2; omega) (.inr hq1))
  have k3:=RepRow.join xs _ j T S4 hx (by rw [hl]; exact k2) (zE5 hT)
  have k4:=RepRow.join _ _ 0 S1 (cup T S4) k1 (by rw [e2,Nat.zero_add]; exact k3) (dj_cup (qL (dj_l hT)) (zE5 h3))
  rw [zA5] at k4
  exact k4
def V.isSc:V→Bool
 | .sc _=>true
 | _=>false
def C.killN (i:Nat):C→C
 | .ref k (s :: p)=>if k=i then .dead else .ref k (s :: p)
 | .part k (s :: p) n lo hi=>if k=i then .dead else .part k (s :: p) n lo hi
 | .addr k (s :: p) n r j=>if k=i then .dead else .addr k (s :: p) n r j
 | x=>x
def Ag.map (f:C→C):Ag C→Ag C
 | .one k=>.one (f k)
 | .agg ks=>.agg (ks.map f)
def Sl.map (f:C→C):Sl→Sl
 | .pl g=>.pl (g.map f)
 | .tup gs=>.tup (gs.map (Ag.map f))
def qG (f:C→C):List (Nat×Sl)→List (Nat×Sl)
 | []=>[]
 | (t,s) :: r=>(t,s.map f) :: qG f r
theorem qL0 {f:C→C} {t:Nat} {s:Sl}:∀ (sl:List (Nat×Sl)),lk t (qG f sl)=some s→∃ s0,lk t sl=some s0∧s=s0.map f
 | [],h=>by cases h
 | (k,s') :: r,h=>by
  simp only [qG,lk] at h ⊢
  split at h
  ·rename_i e
   injection h with h
   exact ⟨s',by rw [if_pos e],h.symm⟩
  ·rename_i e
   rw [if_neg e]
   exact qL0 r h
section
variable {w w':World} {D D':CS} {hs hs':Nat→Value} {nx nx':Nat} {ob ob':List (Nat×V)} {f:C→C}
theorem CsRep.mapf (hf:∀ k u,CRep w D hs nx ob k u→CRep w' D' hs' nx' ob' (f k) u):∀ (cs:List C) (us:List Value),CsRep w D hs nx ob cs us→CsRep w' D' hs' nx' ob' (cs.map f) us
 | [],_,h=>h
 | k :: cs,us,h=>by
  obtain ⟨u,r,h1,h2,h3⟩:=h
  exact ⟨u,r,h1,hf k u h2,CsRep.mapf hf cs r h3⟩
theorem AgRep.mapf (hf:∀ k u,CRep w D hs nx ob k u→CRep w' D' hs' nx' ob' (f k) u) {g:Ag C} {u:Value} (h:AgRep w D hs nx ob g u):AgRep w' D' hs' nx' ob' (g.map f) u:=by
 cases g with
 | one k=>exact hf k u h
 | agg ks=>obtain ⟨us,h1,h2⟩:=h; exact ⟨us,h1,CsRep.mapf hf ks us h2⟩
theorem AgsRep.mapf (hf:∀ k u,CRep w D hs nx ob k u→CRep w' D' hs' nx' ob' (f k) u):∀ (gs:List (Ag C)) (us:List Value),AgsRep w D hs nx ob gs us→AgsRep w' D' hs' nx' ob' (gs.map (Ag.map f)) us
 | [],_,h=>h
 | g :: gs,us,h=>by
  obtain ⟨u,r,h1,h2,h3⟩:=h
  exact ⟨u,r,h1,AgRep.mapf hf h2,AgsRep.mapf hf gs r h3⟩
theorem SlRep.mapf (hf:∀ k u,CRep w D hs nx ob k u→CRep w' D' hs' nx' ob' (f k) u) {s:Sl} {u:Value} (h:SlRep w D hs nx ob s u):SlRep w' D' hs' nx' ob' (s.map f) u:=by
 cases s with
 | pl g=>exact AgRep.mapf hf h
 | tup gs=>obtain ⟨us,h1,h2⟩:=h; exact ⟨us,h1,AgsRep.mapf hf gs us h2⟩
theorem Kp.other {i:Nat} {G:CS} (ho:ObRep w D hs (zR i ob) G) (hG:sameOn w w' G) (hd:sameOn w w' D) {k:Nat} (p:List zC1) (hk:k≠i) (hl:lk k ob'=lk k ob) (hh:hs' k=hs k):Kp w w' hs hs' ob ob' k p:=
 fun v x h1 h2=>by
  rw [hl] at h1
  have h1':lk k (zR i ob)=some v:=by rw [zQ2 hk]; exact h1
  obtain ⟨S1,G',e1,rfl,_⟩:=ho.focus _ _ k v h1'
  exact ⟨v,x,h1,h2,fun u hu _=>by rw [hh,e1.loc_keep h2 hd (zQ hG (qU _ _))]; exact hu⟩
end
section
variable {gG:GG} {c:Ctx gG} {e e':Env} {a:Act} {w:World} {D:CS} {hs:Nat→Value} {S:CS} {X:Cfg} {o:Oper}
theorem StD.write (h:StD c e a w D hs S) {i n r j:Nat} {p:List zC1} {v nd:V} {row:List V} (hi:lk i e.ob=some v) (hp:v.get p=some nd) (hrow:nd.rowAt n r=some row)
  {xs:List V} {us:List Value} {T S0:CS} (hx:RepRow w D (fun k=>us[k]?) xs 0 T) (hl:xs.length=us.length) (hT:TV.dj T S) (h0:sub T S0)
  (hS0:∀ b o,S0 b o→c.S0 b o∨c.w0.heap.size≤b) (hb0:∀ b o,S0 b o→b < w.heap.size) (hDT:TV.dj T D) (hj:j+xs.length≤row.length) (hne:us≠[]) :
  ∃ u0 b o,loc w (hs i) p=some u0∧base u0=some (ad b o)∧(∀ k,k < us.length→(∃ z,w.cell? (ad b (o+r * n+j+k))=some z)∧w.frozen? (ad b (o+r * n+j+k))=false) ∧
   ∃ S',StD c {e with ob:=zU i (v.set p (nd.setRow r (over j xs row))) e.ob,sl:=qG (C.killN i) e.sl} a (w.setCells b (o+r * n+j) us) D hs S':=by
 obtain ⟨S1,G,e1,rfl,e3,e4,e5⟩:=h.ob.focus e.ob S i v hi
 obtain ⟨u0,Sx,G1,f1,f2,rfl,f4,f5⟩:=e1.focus p v _ _ nd hp
 obtain ⟨b,o,Sr,G2,g1,g2,rfl,g4,g5⟩:=f2.row hrow
 obtain ⟨b',o',S2,hq,hr,ho,hjr,rfl⟩:=g2
 have hq':ad b (o+r * n)=ad b' o':=by injection hq with hq; injection hq
 have hb':b=b':=by injection hq'
 have hoo:o+r * n=o':=by injection hq'
 subst hb'
 subst hoo
 obtain ⟨Sold,G3,k1,k2,k3,k4⟩:=hr.over hj
 subst k1
 have hcell:∀ k,k < us.length→(∃ z,w.cell? (ad b (o+r * n+j+k))=some z)∧w.frozen? (ad b (o+r * n+j+k))=false:=fun k hk=>by
  have:=ho (j+k) (by omega)
  rw [← Nat.add_assoc] at this
  exact this
 have hf:=frm_set w b (o+r * n+j) us hne
 -- the written cells lie in the row
 have hin:sub (rng b (o+r * n+j) us.length) (rng b (o+r * n) row.length):=by
  rintro x y ⟨q1,q2,q3⟩
  exact ⟨q1,by omega,by omega⟩
 have hinS:sub (rng b (o+r * n+j) us.length) (cup (cup (cup (cup (rng b (o+r * n) row.length) (cup Sold G3)) G2) G1) G):=fun x y q=>.inl (.inl (.inl (.inl (hin x y q))))
 have smD:TV.sameOn w (w.setCells b (o+r * n+j) us) D:=hf.sameOn (fun x y q1 q2=>h.dj x y (hinS x y q2) q1) h.Dl
 have sm:∀ A:CS,TV.dj A (rng b (o+r * n) row.length)→TV.sameOn w (w.setCells b (o+r * n+j) us) A:=fun A hA x y q=>wD (fun q2=>hA x y q (hin x y q2))
 have smG3:=sm G3 (qL (zE5 hjr))
 have smG2:=sm G2 (qL (kG g4))
 have smG1:=sm G1 (qL (kG (kG f4)))
 have smG:=sm G (qL (kG (kG (kG e3))))
 have smT:TV.sameOn w (w.setCells b (o+r * n+j) us) T:=sm T (fun x y q1 q2=>hT x y q1 (.inl (.inl (.inl (.inl q2)))))
 have hxs:RepRow (w.setCells b (o+r * n+j) us) D (rdm (w.setCells b (o+r * n+j) us) b (o+r * n)) xs j T:=by
  have:=RepRow.frame (zD D) smD xs _ _ 0 T hx smT (fun q _ _=>rfl)
  refine RepRow.shift xs _ _ 0 j T this (fun q hq=>?_)
  have hql:q < us.length:=by omega
  simp only [rdm,Nat.zero_add]
  rw [← Nat.add_assoc,zS2 (fun k hk=>(hcell k hk).1) (List.getElem?_eq_getElem hql),List.getElem?_eq_getElem hql]
 have n1:=k4 _ D _ xs T rfl (zD D) smD smG3 (fun k hk hor=>(wD (by rintro ⟨_,q1,q2⟩; omega)).1) hxs (fun x y q1 q2=>hT x y q1 (.inl (.inl (.inl (.inr (.inr q2))))))
 have hol:(over j xs row).length=row.length:=over_length _ _ _ (by omega)
 have n2:Rep (w.setCells b (o+r * n+j) us) D (.box true (over j xs row)) (.pointer (some (ad b (o+r * n)))) (cup (rng b (o+r * n) row.length) (cup T G3)):=by
  refine ⟨b,o+r * n,cup T G3,rfl,n1,?_,?_,by rw [hol]⟩
  ·intro k hk
   rw [hol] at hk
   by_cases hkj:j≤k∧k < j+us.length
   ·have:(w.setCells b (o+r * n+j) us).cell? (ad b (o+r * n+j+(k - j)))=some us[k - j]:=zS2 (fun k hk=>(hcell k hk).1) (List.getElem?_eq_getElem (by omega))
    rw [show o+r * n+j+(k - j)=o+r * n+k by omega] at this
    refine ⟨⟨_,this⟩,?_⟩
    rw [show (w.setCells b (o+r * n+j) us).frozen? (ad b (o+r * n+k))=w.frozen? (ad b (o+r * n+k)) from World.frozen?_setCells b us _ w _]
    exact (ho k hk).2
   ·have:=wD (w:=w) (b:=b) (o:=o+r * n+j) (us:=us) (b':=b) (o':=o+r * n+k) (by rintro ⟨_,q1,q2⟩; omega)
    rw [this.1,this.2]
    exact ho k hk
  ·rw [hol]
   refine dj_cup (fun x y q1 q2=>hT x y q2 (.inl (.inl (.inl (.inl q1))))) (zE5 hjr)
 have n3:=g5 _ D (over j xs row) _ hol (zD D) smD smG2 n2 (qV (kG g4) (qV (fun x y q1 q2=>hT x y q1 (.inl (.inl (.inr q2)))) (vZ (vZ g4))))
 obtain ⟨n4,_⟩:=f5 _ D _ _ (zD D) smD smG1 n3 (qV (qV (kG (kG f4)) (qV (fun x y q1 q2=>hT x y q1 (.inl (.inr q2))) (vZ (vZ (kG f4))))) (vZ f4))
 have n5:=e5 _ D hs _ _ (zD D) smD smG (fun _ _ _ _=>rfl) n4 (qV (qV (qV (kG (kG (kG e3))) (qV (fun x y q1 q2=>hT x y q1 (.inr q2)) (vZ (vZ (kG (kG e3)))))) (vZ (kG e3))) (vZ e3))
 have hSub:∀ x y,cup (cup (cup (cup (rng b (o+r * n) row.length) (cup T G3)) G2) G1) G x y→T x y∨cup (cup (cup (cup (rng b (o+r * n) row.length) (cup Sold G3)) G2) G1) G x y:=by
  intro x y q
  simp only [cup] at q ⊢
  grind
 refine ⟨u0,b,o,f1,g1,hcell,cup (cup (cup (cup (rng b (o+r * n) row.length) (cup T G3)) G2) G1) G,?_⟩
 exact {
  ob:=n5
  sl:=fun t s ht=>by
   obtain ⟨s0,q1,rfl⟩:=qL0 e.sl ht
   refine SlRep.mapf (fun k u hk=>?_) (h.sl t s0 q1)
   have other:∀ k' q,k'≠i→Kp w (w.setCells b (o+r * n+j) us) hs hs e.ob (zU i (v.set p (nd.setRow r (over j xs row))) e.ob) k' q:=
    fun k' q hk'=>Kp.other e4 smG smD q hk' (zB0 hk' _ _) rfl
   have self:Kp w (w.setCells b (o+r * n+j) us) hs hs e.ob (zU i (v.set p (nd.setRow r (over j xs row))) e.ob) i []:=fun v' x' _ _=>⟨v,v,hi,rfl,fun u hu _=>hu⟩
   have kc:∀ k',(KC w (w.setCells b (o+r * n+j) us) hs hs e.nx e.ob (zU i (v.set p (nd.setRow r (over j xs row))) e.ob) k')→CRep w D hs e.nx e.ob k' u→CRep (w.setCells b (o+r * n+j) us) D hs e.nx (zU i (v.set p (nd.setRow r (over j xs row))) e.ob) k' u:=
    fun k' h1 h2=>h2.kc (zD D) smD (Nat.le_refl _) h1
   cases k with
   | v x=>exact kc _ trivial hk
   | ba row=>exact kc _ trivial hk
   | dead=>trivial
   | ref k' q =>
    cases q with
    | nil =>
     refine kc _ (fun _=>?_) hk
     by_cases q:k'=i
     ·subst q; exact self
     ·exact other k' [] q
    | cons s q =>
     simp only [C.killN]
     split
     ·trivial
     ·rename_i hne'
      exact kc _ (fun _=>other k' _ hne') hk
   | part k' q _ _ _ =>
    cases q with
    | nil =>
     refine kc _ (fun _=>?_) hk
     by_cases q:k'=i
     ·subst q; exact self
     ·exact other k' [] q
    | cons s q =>
     simp only [C.killN]
     split
     ·trivial
     ·rename_i hne'
      exact kc _ (fun _=>other k' _ hne') hk
   | addr k' q _ _ _ =>
    cases q with
    | nil =>
     refine kc _ (fun _=>?_) hk
     by_cases q:k'=i
     ·subst q; exact self
     ·exact other k' [] q
    | cons s q =>
     simp only [C.killN]
     split
     ·trivial
     ·rename_i hne'
      exact kc _ (fun _=>other k' _ hne') hk
  sz:=h.sz
  df:=h.df
  dj:=fun x y q1 q2=>(hSub x y q1).elim (fun q=>hDT x y q q2) (fun q=>h.dj x y q q2)
  Dl:=fun x y q=>by rw [(qG6 b us _ w).2.2.2.1]; exact h.Dl x y q
  id:=fun k x q=>by
   by_cases hki:k=i
   ·subst hki
    exact h.id _ v hi
   ·rw [zB0 hki] at q
    exact h.id k x q
  npx:=h.npx
  hp:=h.hp
  fr:=h.fr.trans hf (fun x y q=>h.Ss x y (hinS x y q))
  Ss:=fun x y q=>(hSub x y q).elim (fun q=>hS0 x y (h0 x y q)) (h.Ss x y)
  D0:=h.D0
  gl:=h.gl
  Ds:=h.Ds}
end
end Go.TV
namespace Go.TV
def Env.place (e:Env):C→Option (Nat×List zC1×Nat×Nat×Nat)
 | .addr i p n r j=>some (i,p,n,r,j)
 | .ref i p=>match e.node i p with | some (.box true _)=>some (i,p,0,0,0) | _=>none
 | _=>none
def Env.lay (e:Env) (k:C) (xs:List V):Option Env:=
 (e.place k).bind fun q=>(lk q.1 e.ob).bind fun v=>(v.get q.2.1).bind fun nd=>(nd.rowAt q.2.2.1 q.2.2.2.1).bind fun row =>
  if q.2.2.2.2+xs.length≤row.length then some {e with ob:=zU q.1 (v.set q.2.1 (nd.setRow q.2.2.2.1 (over q.2.2.2.2 xs row))) e.ob,sl:=qG (C.killN q.1) e.sl} else none
def evStoreS (T:Nat→Option TyI) (o:Oper) (t:Nat) (x:Operand) (s:Sl) (e:Env):Option Env:=
 match o.dst with
 | none=>(T t).bind fun d=>(e.cl x).bind fun k=>match s with
  | .pl g=>(e.takes g.cells).bind fun q=>if q.1.length=d.size∧d.size≠0 then q.2.lay k q.1 else none
  | _=>none
 | some _=>none
def jZ (T:Nat→Option TyI) (o:Oper) (t:Nat) (x y:Operand) (e:Env):Option Env:=
 match o.dst with
 | none=>(T t).bind fun d=>(e.cl x).bind fun k=>(e.val y).bind fun
  | .pl g=>(e.takes g.cells).bind fun q=>if q.1.length=d.size∧d.size≠0 then q.2.lay k q.1 else none
  | _=>none
 | some _=>none
section
variable {gG:GG} {c:Ctx gG} {e e':Env} {a:Act} {w:World} {D:CS} {hs:Nat→Value} {S:CS} {X:Cfg} {o:Oper}
theorem evStoreS_ok (h:StD c e a w D hs S) {t:Nat} {x y:Operand} {s:Sl} (ho:o.op=.store t x y) (hg:SlRep w D hs e.nx e.ob s (a.eval y)) (he:evStoreS X.T o t x s e=some e'):Did X.P c o a w e':=by
 unfold evStoreS at he
 split at he
 case h_2=>cases he
 rename_i hdst
 obtain ⟨d,h1,h2⟩:=zbi he
 obtain ⟨k,h3,h2⟩:=zbi h2
 obtain ⟨g,rfl⟩:∃ g,s=.pl g:=by
  cases s with
  | pl g=>exact ⟨g,rfl⟩
  | tup gs=>cases h2
 simp only at h2
 obtain ⟨⟨xs,e1⟩,h5,h2⟩:=zbi h2
 simp only at h2
 split at h2
 case isFalse=>cases h2
 rename_i hsz
 obtain ⟨⟨i,p,n,r,j⟩,h6,h2⟩:=zbi h2
 obtain ⟨v,h7,h2⟩:=zbi h2
 obtain ⟨nd,h8,h2⟩:=zbi h2
 obtain ⟨row,h9,h2⟩:=zbi h2
 simp only at h7 h8 h9 h2
 split at h2
 case isFalse=>cases h2
 rename_i hj
 injection h2 with h2
 subst h2
 obtain ⟨us,k1,k2⟩:=AgRep.cells' h hg h5
 obtain ⟨S1,S',f1,f2,f3,f4,f5,f6,f7,f8,f9,f10,f11⟩:=StD.takes g.cells h h5 k2
 have hx:=f11 _ _ (h.cl h3)
 have hne:us≠[]:=fun hu=>by rw [hu,List.length_nil] at f2; omega
 obtain ⟨u0,b,o',q1,q2,q3,S2,q4⟩:=f4.write h7 h8 h9 f1 f2 f5 f6 h.Ss h.ob.blt (yR h.dj f6) hj hne
 -- the address
 have haddr:a.eval x=.pointer (some (ad b (o'+r * n+j))):=by
  cases k with
  | addr i' p' n' r' j' =>
   simp only [Env.place,Option.some.injEq,Prod.mk.injEq] at h6
   obtain ⟨rfl,rfl,rfl,rfl,rfl⟩:=h6
   obtain ⟨u1,g1,_,b',o2,g2,g3⟩:=hx.2 v nd h7 h8
   rw [q1] at g1
   injection g1 with g1
   subst g1
   rw [q2] at g2
   injection g2 with g2
   have eb:b=b':=by injection g2
   have eo:o'=o2:=by injection g2
   subst eb
   subst eo
   exact g3
  | ref i' p' =>
   simp only [Env.place] at h6
   split at h6
   case h_2=>cases h6
   rename_i row' hn
   simp only [Option.some.injEq,Prod.mk.injEq] at h6
   obtain ⟨rfl,rfl,rfl,rfl,rfl⟩:=h6
   obtain ⟨u1,g1,_,rfl⟩:=hx.2 v nd h7 h8
   rw [q1] at g1
   injection g1 with g1
   subst g1
   obtain ⟨v',z1,z2⟩:=f4.lnode hn
   rw [h7] at z1
   injection z1 with z1
   subst z1
   rw [h8] at z2
   injection z2 with z2
   subst z2
   obtain ⟨u2,Sx,d1,d2,_⟩:=f4.node h7 h8
   rw [q1] at d1
   injection d1 with d1
   subst d1
   obtain ⟨b',o2,_,d3,_⟩:=d2
   rw [d3] at q2 ⊢
   simp only [base,Option.some.injEq] at q2
   rw [q2]
   simp
  | _=>cases h6
 have hd:=X.hT _ _ h1
 refine ⟨undef,_,.inr ⟨?_,rfl⟩,D,hs,S2,by rw [hdst]; exact q4⟩
 have hst:=Go.run_storeCells_cells (P:=X.P) b (o'+r * n+j) us 0 w (fun k hk=>by obtain ⟨z,hz⟩:=(q3 k hk).1; exact Option.isSome_iff_exists.2 ⟨z,hz⟩) (fun k hk=>(q3 k hk).2) f3
 have hsv:(Instr.storeAt t (a.eval x) (a.eval y)).run X.P w=.ok () (w.setCells b (o'+r * n+j) us):=by
  have hcs:((a.eval y).cells).size=d.size:=by rw [k1]; simp; omega
  simp only [Instr.storeAt,haddr,Instr.sureAddr,storeVar,Sem.run_bind,Sem.run_pure,Result.andThen_ok,zD2 hd]
  rw [if_neg (by rw [hcs]; simp),k1]
  exact hst
 simp only [execOp,ho,Sem.run_bind]
 rw [hsv]
 rfl
theorem evStore_ok (h:StD c e a w D hs S) {t:Nat} {x y:Operand} (ho:o.op=.store t x y) (he:jZ X.T o t x y e=some e'):Did X.P c o a w e':=by
 unfold jZ at he
 split at he
 case h_2=>cases he
 rename_i hdst
 obtain ⟨d,h1,h2⟩:=zbi he
 obtain ⟨k,h3,h2⟩:=zbi h2
 obtain ⟨s,h4,h2⟩:=zbi h2
 refine evStoreS_ok (X:=X) h ho (h.val h4) ?_
 unfold evStoreS
 rw [hdst,h1,Option.bind_some,h3,Option.bind_some]
 exact h2
end
end Go.TV
