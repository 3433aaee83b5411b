/- The plain laws. -/
import Derived.Test.YtbapbpnchdpbhaaGreatKFnExactReadWeaveT1
import Derived.Laws.BitsLemmas
import Derived.Test.YtbapbpnchdpbhaaGreatKFnExactReadWeaveD
set_option linter.unusedVariables false
set_option linter.unusedSimpArgs false
set_option maxHeartbeats 8000000
set_option maxRecDepth 100000
namespace Go.TV.F
open Go.TV
theorem qM {x:Int} (h1 : -9223372036854775808≤x) (h2:x < 9223372036854775808):wk .i64 x=x:=by
 simp only [wk,IntKind.wrap,IntKind.bits,IntKind.signed,Bool.true_and,decide_eq_true_eq,Nat.reduceSub,Int.reducePow]
 split
 ·rename_i h; simp at h; omega
 ·rename_i h; simp at h; omega
theorem wku64 {x:Int} (h1:0≤x) (h2:x < 18446744073709551616):wk .u64 x=x:=by
 simp only [wk,IntKind.wrap,IntKind.bits,IntKind.signed,Bool.true_and,Bool.false_and,decide_eq_true_eq,Bool.false_eq_true,if_false,Nat.reduceSub,Int.reducePow]
 first | omega | (split <;> omega)
theorem wku32 {x:Int} (h1:0≤x) (h2:x < 4294967296):wk .u32 x=x:=by
 simp only [wk,IntKind.wrap,IntKind.bits,IntKind.signed,Bool.true_and,Bool.false_and,decide_eq_true_eq,Bool.false_eq_true,if_false,Nat.reduceSub,Int.reducePow]
 first | omega | (split <;> omega)
theorem wku8 {x:Int} (h1:0≤x) (h2:x < 256):wk .u8 x=x:=by
 simp only [wk,IntKind.wrap,IntKind.bits,IntKind.signed,Bool.true_and,Bool.false_and,decide_eq_true_eq,Bool.false_eq_true,if_false,Nat.reduceSub,Int.reducePow]
 first | omega | (split <;> omega)
theorem wku32_mod (x:Int):wk .u32 x=x % 4294967296:=by
 simp only [wk,IntKind.wrap,IntKind.bits,IntKind.signed,Bool.false_and,Bool.false_eq_true,if_false,Int.reducePow]
theorem wku8_mod (x:Int):wk .u8 x=x % 256:=by
 simp only [wk,IntKind.wrap,IntKind.bits,IntKind.signed,Bool.false_and,Bool.false_eq_true,if_false,Int.reducePow]
theorem zF {α:Type} (l:List α) (k:Nat):zI l (k:Int)=l[k]?:=by
 unfold zI
 rw [if_neg (by omega),Int.toNat_natCast]
theorem zP0 {α:Type} {l:List α} {i:Int} (h1:0≤i) (h2:i < l.length):zI l i=some (l[i.toNat]'(by omega)):=by
 unfold zI
 rw [if_neg (by omega),List.getElem?_eq_getElem]
theorem mkl_in {α:Type} {n:Int} {z:α} (h1:0≤n) (h2:n≤1099511627776):mkl n n z=some (List.replicate n.toNat z):=by
 unfold mkl
 rw [if_pos ⟨h1,Int.le_refl _,h2⟩]
theorem zK {α:Type} {l m:List α} (h:l.length+m.length≤549755813888):qE l m=some (l++m):=by
 unfold qE
 rw [if_pos h]
theorem uL {s t:ByteArray} (h:s.size+t.size≤4611686018427387904):sapp s t=some (s++t):=by
 unfold sapp
 rw [if_pos h]
theorem chk_in {p:Prop} [Decidable p] (h:p):chk p=some ():=by
 unfold chk
 rw [if_pos h]
theorem uW {σ ρ:Type} {body:σ→Option (σ⊕ρ)} {r:ρ} (f:Nat→σ) (n:Nat) (hs:∀ k,k < n→body (f k)=some (.inl (f (k+1)))) (he:body (f n)=some (.inr r)):zC body (f 0)=some r:=by
 have key:∀ m k,k+m=n→zC body (f k)=some r:=by
  intro m
  induction m with
  | zero=>intro k hk; rw [Nat.add_zero] at hk; subst hk; rw [zJ,he]; rfl
  | succ m ih=>intro k hk; rw [zJ,hs k (by omega)]; exact ih (k+1) (by omega)
 exact key n 0 (by omega)
theorem qA6 {σ ρ:Type} {body:σ→Option (σ⊕ρ)} {good bad:ρ} (f:Nat→σ) (n:Nat) (p:Nat→Bool) (hs:∀ k,k < n→(∀ j,j < k→p j=true)→p k=true→body (f k)=some (.inl (f (k+1))))
  (hb:∀ k,k < n→(∀ j,j < k→p j=true)→p k=false→body (f k)=some (.inr bad)) (he:(∀ j,j < n→p j=true)→body (f n)=some (.inr good)):zC body (f 0)=some (if (List.range n).all p=true then good else bad):=by
 have key:∀ m k,k+m=n→(∀ j,j < k→p j=true)→zC body (f k)=some (if (List.range n).all p=true then good else bad):=by
  intro m
  induction m with
  | zero =>
   intro k hk hp
   rw [Nat.add_zero] at hk
   subst hk
   rw [zJ,he hp,if_pos (by simpa using hp)]
   rfl
  | succ m ih =>
   intro k hk hp
   rw [zJ]
   cases q:p k with
   | true =>
    rw [hs k (by omega) hp q]
    refine ih (k+1) (by omega) (fun j hj=>?_)
    rcases Nat.lt_succ_iff_lt_or_eq.1 hj with h | rfl
    ·exact hp j h
    ·exact q
   | false =>
    rw [hb k (by omega) hp q,if_neg]
    ·rfl
    ·intro hq
     have:=List.all_eq_true.1 hq k (List.mem_range.2 (by omega))
     rw [q] at this
     cases this
 exact key n 0 (by omega) (fun j hj=>by omega)
end Go.TV.F
namespace Go.TV.F
open Go.TV
def kQ {α:Type} (w:α→Nat):List α→Nat
 | []=>0
 | x :: l=>w x+kQ w l
theorem qA4 {α:Type} {w:α→Nat} {l:List α} {x:α} (h:x ∈ l):w x≤kQ w l:=by
 induction l with
 | nil=>cases h
 | cons y l ih =>
  rcases List.mem_cons.1 h with rfl | h
  ·simp [kQ]
  ·have:=ih h
   simp [kQ]
   omega
theorem eq_loop {ρ:Type} {body:Int→Option (Int⊕ρ)} {r:ρ} (n:Nat) (hs:∀ i:Nat,i < n→body (i:Int)=some (.inl ((i+1:Nat):Int))) (he:body (n:Int)=some (.inr r)):zC body 0=some r:=
 uW (fun k=>(k:Int)) n hs he
def mkL {α:Type} (c:α→Nat) (mk:α→Int→α):List α→Int→List α
 | [],_=>[]
 | x :: l,k=>mk x k :: mkL c mk l (k+c x)
theorem qD7 {α:Type} (c:α→Nat) (mk:α→Int→α):∀ (l:List α) (k:Int),(mkL c mk l k).length=l.length
 | [],_=>rfl
 | x :: l,k=>by simp [mkL,qD7 c mk l]
theorem mark_loop {α:Type} {body:Int×Int×List α→Option ((Int×Int×List α)⊕(Int×List α))} (c:α→Nat) (mk:α→Int→α) (a:List α) (k0 B:Int) (h1:1≤k0) (hB:k0+kQ c a≤B)
  (hs:∀ (k:Int) (i:Nat) (x:α) (l:List α),l[i]? = some x→x ∈ a→l.length=a.length→1≤k→k+c x≤B→body (k,(i:Int),l)=some (.inl (k+c x,((i+1:Nat):Int),l.set i (mk x k))))
  (he:∀ (k:Int) (l:List α),l.length=a.length→body (k,(a.length:Int),l)=some (.inr (k,l))):zC body (k0,(0:Int),a)=some (k0+kQ c a,mkL c mk a k0):=by
 have key:∀ (l pre:List α) (k:Int),(∀ x ∈ l,x ∈ a)→pre.length+l.length=a.length→1≤k→k+kQ c l≤B→zC body (k,(pre.length:Int),pre++l)=some (k+kQ c l,pre++mkL c mk l k):=by
  intro l
  induction l with
  | nil =>
   intro pre k _ hl h1 hB
   rw [zJ,show (pre.length:Int)=(a.length:Int) by simp at hl; omega,he _ _ (by simpa using hl)]
   simp [kQ,mkL]
  | cons x l ih =>
   intro pre k hm hl h1 hB
   simp only [kQ] at hB
   rw [zJ,hs k pre.length x _ (by simp) (hm x (by simp)) (by simpa using hl) h1 (by omega)]
   have:=ih (pre++[mk x k]) (k+c x) (fun y hy=>hm y (by simp [hy])) (by simp at hl ⊢; omega) (by omega) (by omega)
   have e:(pre++x :: l).set pre.length (mk x k)=pre++[mk x k]++l:=by
    rw [List.set_append_right _ _ (by simp)]
    simp
   rw [e]
   rw [List.length_append] at this
   refine this.trans ?_
   simp only [kQ,mkL,List.append_assoc,List.cons_append,List.nil_append,Option.some.injEq,Prod.mk.injEq,and_true]
   omega
 exact key a [] k0 (fun _ h=>h) (by simp) h1 hB
theorem held_loop {α:Type} {ρ:Type} {body:Int×Int→Option ((Int×Int)⊕ρ)} {r:Int→ρ} (c:α→Nat) (mk:α→Int→α) (a:List α) (k0 B:Int) (h1:1≤k0) (hB:k0+kQ c a≤B)
  (hs:∀ (k:Int) (i:Nat) (x:α),(mkL c mk a k0)[i]? = some (mk x k)→i < a.length→x ∈ a→1≤k→k+c x≤B→body (k,(i:Int))=some (.inl (k+c x,((i+1:Nat):Int))))
  (he:∀ (k:Int),body (k,(a.length:Int))=some (.inr (r k))):zC body (k0,(0:Int))=some (r (k0+kQ c a)):=by
 have key:∀ (l:List α) (pre:List α) (k:Int),(∀ x ∈ l,x ∈ a)→mkL c mk a k0=pre++mkL c mk l k→pre.length+l.length=a.length→1≤k→k+kQ c l≤B→zC body (k,(pre.length:Int))=some (r (k+kQ c l)):=by
  intro l
  induction l with
  | nil =>
   intro pre k _ _ hl h1 hB
   rw [zJ,show (pre.length:Int)=(a.length:Int) by simp at hl; omega,he]
   simp [kQ]
  | cons x l ih =>
   intro pre k hm hp hl h1 hB
   simp only [kQ] at hB
   rw [zJ,hs k pre.length x (by rw [hp]; simp [mkL]) (by simp at hl; omega) (hm x (by simp)) h1 (by omega)]
   have:=ih (pre++[mk x k]) (k+c x) (fun y hy=>hm y (by simp [hy])) (by rw [hp]; simp [mkL]) (by simp at hl ⊢; omega) (by omega) (by omega)
   rw [List.length_append] at this
   refine this.trans ?_
   simp only [kQ,Option.some.injEq]
   congr 1
   omega
 exact key a [] k0 (fun _ h=>h) rfl (by simp) h1 hB
end Go.TV.F
namespace Go.TV.F
open Go.TV
def zJ8 (l:List Int) (n:Int) (i:Nat):Bool:=decide (l.getD i 0≥0) && decide (l.getD i 0≤n - 1) && (i == 0 || decide (l.getD (i - 1) 0 < l.getD i 0))
def rise (l:List Int) (n:Int):Bool:=(List.range l.length).all (zJ8 l n)
def gAt (g:List (List Int)) (v:Nat):Bool:=decide ((g.getD v []).length≤4) && rise (g.getD v []) v
def gOk (g:List (List Int)):Bool:=decide (g.length≤40) && (List.range g.length).all (gAt g)
theorem kV {g:List (List Int)} (h:gOk g=true):g.length≤40:=by
 simp only [gOk,Bool.and_eq_true,decide_eq_true_eq] at h
 exact h.1
theorem zX6 {g:List (List Int)} (hg:gOk g=true) {v:Nat} (hv:v < g.length):g[v].length≤4∧rise g[v] v=true:=by
 simp only [gOk,Bool.and_eq_true] at hg
 have h1:=List.all_eq_true.1 hg.2 v (List.mem_range.2 hv)
 have:g.getD v []=g[v]:=by simp [hv]
 simp only [gAt,this,Bool.and_eq_true,decide_eq_true_eq] at h1
 exact h1
theorem qD6 {l:List Int} {n:Int} (h:rise l n=true) {x:Int} (hx:x ∈ l):0≤x∧x≤n - 1:=by
 obtain ⟨i,hi,rfl⟩:=List.getElem_of_mem hx
 have:=List.all_eq_true.1 h i (List.mem_range.2 hi)
 have e:l.getD i 0=l[i]:=by simp [hi]
 simp only [zJ8,e,Bool.and_eq_true,decide_eq_true_eq] at this
 exact this.1
theorem qA2 {g:List (List Int)} (hg:gOk g=true) {v:Nat} (hv:v < g.length) {x:Int} (hx:x ∈ g[v]):0≤x∧x < v:=by
 have:=qD6 (zX6 hg hv).2 hx
 omega
def orL (c:List Nat) (l:List Int):Nat:=l.foldl (fun (s:Nat) (x:Int)=>s ||| c.getD x.toNat 0) 0
theorem orL_snoc (c:List Nat) (l:List Int) (x:Int):orL c (l++[x])=orL c l ||| c.getD x.toNat 0:=by
 unfold orL
 rw [List.foldl_append]
 rfl
theorem orL_take {c:List Nat} {l:List Int} {i:Nat} (hi:i < l.length):orL c (l.take (i+1))=orL c (l.take i) ||| c.getD l[i].toNat 0:=by
 rw [List.take_succ_eq_append_getElem hi,orL_snoc]
theorem getD_lt {c:List Nat} (hc:∀ x ∈ c,x < 2 ^ 64) (i:Nat):c.getD i 0 < 2 ^ 64:=by
 rw [List.getD_eq_getElem?_getD]
 rcases q:c[i]? with _ | x
 ·decide
 ·exact hc x (List.mem_of_getElem? q)
theorem orL_lt {c:List Nat} (hc:∀ x ∈ c,x < 2 ^ 64) (l:List Int):orL c l < 2 ^ 64:=by
 unfold orL
 suffices h:∀ (l:List Int) (s:Nat),s < 2 ^ 64→l.foldl (fun (s:Nat) (x:Int)=>s ||| c.getD x.toNat 0) s < 2 ^ 64 from h l 0 (by decide)
 intro l
 induction l with
 | nil=>intro s hs; exact hs
 | cons x l ih=>intro s hs; exact ih _ (Nat.or_lt_two_pow hs (getD_lt hc _))
theorem orL_test (c:List Nat) (l:List Int) (u:Nat):(orL c l).testBit u=l.any fun x=>(c.getD x.toNat 0).testBit u:=by
 unfold orL
 suffices h:∀ (l:List Int) (s:Nat),(l.foldl (fun (s:Nat) (x:Int)=>s ||| c.getD x.toNat 0) s).testBit u=(s.testBit u || l.any fun x=>(c.getD x.toNat 0).testBit u) by
  rw [h]; simp
 intro l
 induction l with
 | nil=>intro s; simp
 | cons x l ih=>intro s; rw [List.foldl_cons,ih,Nat.testBit_or,List.any_cons,Bool.or_assoc]
theorem wrapu {n:Int} (h0:0≤n) (h1:n < 2 ^ 64):IntKind.wrap .u64 n=n:=wku64 h0 (by omega)
theorem or_u64 {a b:Nat} (ha:a < 2 ^ 64) (hb:b < 2 ^ 64):bits .or .u64 a b=((a ||| b:Nat):Int):=(bits_nat .u64 64 (by decide) (fun n h0 h1=>wrapu h0 h1) a b ha hb).2
theorem and_u64 {a b:Nat} (ha:a < 2 ^ 64) (hb:b < 2 ^ 64):bits .and .u64 a b=((a &&& b:Nat):Int):=(bits_nat .u64 64 (by decide) (fun n h0 h1=>wrapu h0 h1) a b ha hb).1
theorem shl_one {n:Nat} (hn:n < 64):shlI .u64 1 (n:Int)=((2 ^ n:Nat):Int):=by
 have h:(2 ^ n:Nat) < 2 ^ 64:=Nat.pow_lt_pow_right (by decide) hn
 unfold shlI
 rw [Int.toNat_natCast,show min n IntKind.u64.bits=n by simp [IntKind.bits]; omega,Int.one_mul]
 have e:((2:Int) ^ n)=((2 ^ n:Nat):Int):=by simp
 rw [e]
 exact wku64 (Int.natCast_nonneg _) (Int.ofNat_lt.2 (show 2 ^ n < 18446744073709551616 from h))
theorem shr_test (s n:Nat) (hs:s < 2 ^ 64) (hn:n < 64):((bits .and .u64 (xL .u64 (s:Int) (n:Int)) 1) == 1)=s.testBit n:=by
 have e1:xL .u64 (s:Int) (n:Int)=((s / 2 ^ n:Nat):Int):=by
  unfold xL
  rw [Int.toNat_natCast,show min n IntKind.u64.bits=n by simp [IntKind.bits]; omega]
  simp
 have e2:=and_u64 (a:=s / 2 ^ n) (b:=1) (Nat.lt_of_le_of_lt (Nat.div_le_self _ _) hs) (by decide)
 rw [e1,show ((1:Int))=((1:Nat):Int) from rfl,e2,Nat.testBit_eq_decide_div_mod_eq,Nat.and_one_is_mod]
 rcases Nat.mod_two_eq_zero_or_one (s / 2 ^ n) with q | q <;> rw [q] <;> rfl
def zA6 (l:List Nat):List Int:=l.map fun (n:Nat)=>(n:Int)
def jA (g:List (List Int)):Nat→List Nat
 | 0=>List.replicate g.length 0
 | n+1=>(jA g n).set n (orL (jA g n) (g.getD n []) ||| 2 ^ n)
theorem zV3 (g:List (List Int)):∀ n,(jA g n).length=g.length
 | 0=>by simp [jA]
 | n+1=>by rw [jA,List.length_set,zV3]
theorem qI1 {g:List (List Int)} (hg:g.length≤40):∀ n,n≤g.length→∀ x ∈ jA g n,x < 2 ^ 64
 | 0,_,x,hx=>by
  have:=List.eq_of_mem_replicate hx
  subst this
  decide
 | n+1,hn,x,hx=>by
  rcases List.mem_or_eq_of_mem_set hx with q | q
  ·exact qI1 hg n (by omega) x q
  ·rw [q]
   exact Nat.or_lt_two_pow (orL_lt (qI1 hg n (by omega)) _) (Nat.pow_lt_pow_right (by decide) (by omega))
theorem closN_old (g:List (List Int)):∀ (n k i:Nat),i < n→(jA g (n+k)).getD i 0=(jA g n).getD i 0
 | _,0,_,_=>rfl
 | n,k+1,i,hi=>by
  rw [← Nat.add_assoc,jA,List.getD_eq_getElem?_getD,List.getElem?_set_ne (by omega),← List.getD_eq_getElem?_getD]
  exact closN_old g n k i hi
def clo (g:List (List Int)) (v:Nat):Nat:=(jA g g.length).getD v 0
theorem closN_clo {g:List (List Int)} {n i:Nat} (hn:n≤g.length) (hi:i < n):(jA g n).getD i 0=clo g i:=by
 have:=closN_old g n (g.length - n) i hi
 rw [show n+(g.length - n)=g.length by omega] at this
 exact this.symm
theorem clo_lt {g:List (List Int)} (hg:gOk g=true) (v:Nat):clo g v < 2 ^ 64:=getD_lt (qI1 (kV hg) _ (Nat.le_refl _)) v
theorem clo_test {g:List (List Int)} (hg:gOk g=true) {v:Nat} (hv:v < g.length) (u:Nat):(clo g v).testBit u=(decide (u=v) || g[v].any fun p=>(clo g p.toNat).testBit u):=by
 have e:g.getD v []=g[v]:=by simp [hv]
 have h1:clo g v=orL (jA g v) g[v] ||| 2 ^ v:=by
  rw [← closN_clo (n:=v+1) (by omega) (by omega),jA,List.getD_eq_getElem?_getD,List.getElem?_set_self (by rw [zV3]; omega),e]
  rfl
 have h2:(orL (jA g v) g[v]).testBit u=g[v].any fun p=>(clo g p.toNat).testBit u:=by
  rw [orL_test,Bool.eq_iff_iff,List.any_eq_true,List.any_eq_true]
  constructor
  ·rintro ⟨x,hx,h⟩
   have:=qA2 hg hv hx
   exact ⟨x,hx,by rw [← closN_clo (n:=v) (by omega) (by omega)]; exact h⟩
  ·rintro ⟨x,hx,h⟩
   have:=qA2 hg hv hx
   exact ⟨x,hx,by rw [closN_clo (by omega) (by omega)]; exact h⟩
 rw [h1,Nat.testBit_or,h2,Nat.testBit_two_pow,Bool.or_comm]
 congr 1
 simp only [decide_eq_decide]
 omega
theorem clo_self {g:List (List Int)} (hg:gOk g=true) {v:Nat} (hv:v < g.length):(clo g v).testBit v=true:=by
 rw [clo_test hg hv]
 simp
def mark (b:List Bool) (l:List Int):List Bool:=l.foldl (fun (b:List Bool) (x:Int)=>if 0≤x∧x < b.length then b.set x.toNat true else b) b
def wA (g:List (List Int)) (b:List Bool) (v:Nat):List Bool:=if b.getD v false=true then mark b (g.getD v []) else b
def down (g:List (List Int)):Nat→List Bool→List Bool
 | 0,b=>b
 | n+1,b=>down g n (wA g b n)
def setL (g:List (List Int)) (l:List Int):List Bool:=down g g.length (mark (List.replicate g.length false) l)
theorem mark_snoc (b:List Bool) (l:List Int) (x:Int):mark b (l++[x])=if 0≤x∧x < (mark b l).length then (mark b l).set x.toNat true else mark b l:=by
 unfold mark
 rw [List.foldl_append]
 rfl
theorem zQ0 (b:List Bool) (l:List Int):(mark b l).length=b.length:=by
 unfold mark
 induction l generalizing b with
 | nil=>rfl
 | cons x l ih =>
  rw [List.foldl_cons,ih]
  split <;> simp
theorem mark_take {b:List Bool} {l:List Int} {i:Nat} (hi:i < l.length):mark b (l.take (i+1))=if 0≤l[i]∧l[i] < b.length then (mark b (l.take i)).set l[i].toNat true else mark b (l.take i):=by
 rw [List.take_succ_eq_append_getElem hi,mark_snoc,zQ0]
theorem zU8 (b:List Bool) (l:List Int) (u:Nat):(mark b l).getD u false=(b.getD u false || (decide (u < b.length) && l.any fun x=>x == (u:Int))):=by
 unfold mark
 induction l generalizing b with
 | nil=>simp
 | cons x l ih =>
  rw [List.foldl_cons,ih,List.any_cons]
  split
  ·rename_i hx
   simp only [List.length_set,List.getD_eq_getElem?_getD,List.getElem?_set]
   by_cases e:x.toNat=u
   ·have e':(x == (u:Int))=true:=by simp; omega
    rw [if_pos e,if_pos (by omega),e']
    simp
    right
    omega
   ·have e':(x == (u:Int))=false:=by simp; omega
    rw [if_neg e,e',Bool.false_or]
  ·rename_i hx
   by_cases e:x=(u:Int)
   ·have:¬u < b.length:=by omega
    simp [this]
   ·have e':(x == (u:Int))=false:=by simp; exact e
    rw [e',Bool.false_or]
theorem down_len (g:List (List Int)):∀ (n:Nat) (b:List Bool),(down g n b).length=b.length
 | 0,_=>rfl
 | n+1,b=>by
  rw [down,down_len,wA]
  split
  ·exact zQ0 _ _
  ·rfl
theorem setL_len (g:List (List Int)) (l:List Int):(setL g l).length=g.length:=by rw [setL,down_len,zQ0]; simp
theorem down_get {g:List (List Int)} (hg:gOk g=true):∀ (m:Nat) (b:List Bool),m≤g.length→b.length=g.length→∀ u,(down g m b).getD u false=true↔∃ w,b.getD w false=true∧((w < m∧(clo g w).testBit u=true)∨u=w)
 | 0,b,_,_,u=>by
  rw [down]
  exact ⟨fun h=>⟨u,h,.inr rfl⟩,fun ⟨w,h1,h2⟩=>by
   rcases h2 with ⟨h2,_⟩ | h2
   ·omega
   ·rw [h2]; exact h1⟩
 | m+1,b,hm,hb,u=>by
  have hl:(wA g b m).length=g.length:=by
   rw [wA]
   split
   ·rw [zQ0]; exact hb
   ·exact hb
  rw [down,down_get hg m _ (by omega) hl u]
  have e:g.getD m []=g[m]:=by simp [show m < g.length by omega]
  by_cases q:b.getD m false=true
  ·rw [wA,if_pos q,e]
   constructor
   ·rintro ⟨w,h1,h2⟩
    rw [zU8] at h1
    simp only [Bool.or_eq_true,Bool.and_eq_true,decide_eq_true_eq,List.any_eq_true] at h1
    rcases h1 with h1 | ⟨_,x,hx,h1⟩
    ·refine ⟨w,h1,?_⟩
     rcases h2 with ⟨h2,h3⟩ | h2
     ·exact .inl ⟨by omega,h3⟩
     ·exact .inr h2
    ·have hx':=qA2 hg (v:=m) (by omega) hx
     have h1:x=(w:Int):=by simpa using h1
     subst h1
     refine ⟨m,q,.inl ⟨by omega,?_⟩⟩
     rw [clo_test hg (by omega)]
     simp only [Bool.or_eq_true,List.any_eq_true]
     refine .inr ⟨(w:Int),hx,?_⟩
     rw [Int.toNat_natCast]
     rcases h2 with ⟨_,h2⟩ | h2
     ·exact h2
     ·rw [h2]
      exact clo_self hg (by omega)
   ·rintro ⟨w,h1,h2⟩
    by_cases hw:w=m
    ·subst hw
     rcases h2 with ⟨_,h2⟩ | h2
     ·rw [clo_test hg (by omega)] at h2
      simp only [Bool.or_eq_true,decide_eq_true_eq,List.any_eq_true] at h2
      rcases h2 with h2 | ⟨p,hp,h2⟩
      ·exact ⟨w,by rw [zU8,h1]; rfl,.inr h2⟩
      ·have hp':=qA2 hg (v:=w) (by omega) hp
       refine ⟨p.toNat,?_,.inl ⟨by omega,h2⟩⟩
       rw [zU8]
       simp only [Bool.or_eq_true,Bool.and_eq_true,decide_eq_true_eq,List.any_eq_true]
       exact .inr ⟨by omega,p,hp,by simp; omega⟩
     ·exact ⟨w,by rw [zU8,h1]; rfl,.inr h2⟩
    ·refine ⟨w,by rw [zU8,h1]; rfl,?_⟩
     rcases h2 with ⟨h2,h3⟩ | h2
     ·exact .inl ⟨by omega,h3⟩
     ·exact .inr h2
  ·rw [wA,if_neg q]
   constructor
   ·rintro ⟨w,h1,h2⟩
    refine ⟨w,h1,?_⟩
    rcases h2 with ⟨h2,h3⟩ | h2
    ·exact .inl ⟨by omega,h3⟩
    ·exact .inr h2
   ·rintro ⟨w,h1,h2⟩
    have hw:w≠m:=fun e=>q (e ▸ h1)
    refine ⟨w,h1,?_⟩
    rcases h2 with ⟨h2,h3⟩ | h2
    ·exact .inl ⟨by omega,h3⟩
    ·exact .inr h2
theorem setL_get {g:List (List Int)} (hg:gOk g=true) (l:List Int) (u:Nat):(setL g l).getD u false=true↔∃ x ∈ l,0≤x∧x < g.length∧(clo g x.toNat).testBit u=true:=by
 rw [setL,down_get hg _ _ (Nat.le_refl _) (by rw [zQ0]; simp)]
 constructor
 ·rintro ⟨w,h1,h2⟩
  rw [zU8] at h1
  simp only [List.length_replicate,Bool.or_eq_true,Bool.and_eq_true,decide_eq_true_eq,List.any_eq_true] at h1
  rcases h1 with h1 | ⟨h0,x,hx,h1⟩
  ·rw [List.getD_eq_getElem?_getD,List.getElem?_replicate] at h1
   split at h1 <;> cases h1
  ·have h1:x=(w:Int):=by simpa using h1
   subst h1
   refine ⟨(w:Int),hx,by omega,by omega,?_⟩
   rw [Int.toNat_natCast]
   rcases h2 with ⟨_,h2⟩ | h2
   ·exact h2
   ·rw [h2]; exact clo_self hg h0
 ·rintro ⟨x,hx,h0,h1,h2⟩
  refine ⟨x.toNat,?_,.inl ⟨by omega,h2⟩⟩
  rw [zU8]
  simp only [List.length_replicate,Bool.or_eq_true,Bool.and_eq_true,decide_eq_true_eq,List.any_eq_true]
  exact .inr ⟨by omega,x,hx,by simp; omega⟩
end Go.TV.F
namespace Go.TV.F
open Go.TV
theorem loopK1 {σ ρ:Type} {f:σ→Option (σ⊕ρ)} (I:σ→Prop) (m:σ→Nat) (Q:ρ→Prop) {s:σ} (h0:I s)
  (h:∀ s,I s→(∃ s',f s=some (.inl s')∧I s'∧m s' < m s)∨∃ r,f s=some (.inr r)∧Q r):∃ r,zC f s=some r∧Q r:=by
 have key:∀ n s,I s→m s=n→∃ r,zC f s=some r∧Q r:=by
  intro n
  induction n using Nat.strongRecOn with
  | _ n ih =>
   intro s hs hm
   rw [zJ f]
   rcases h s hs with ⟨s',h1,h2,h3⟩ | ⟨r,h1,h2⟩
   ·rw [h1]
    exact ih (m s') (by omega) s' h2 rfl
   ·rw [h1]
    exact ⟨r,rfl,h2⟩
 exact key _ s h0 rfl
theorem tdivK (a b:Nat):((a:Int)).tdiv (b:Int)=((a / b:Nat):Int):=by
 rw [Int.tdiv_eq_ediv_of_nonneg (by omega)]
 rfl
theorem mkSK (l:List Int):(mkS l).size=l.length:=by
 show (List.toArray (l.map fun x=>UInt8.ofNat x.toNat)).size=_
 simp
theorem gset {α:Type} {l:List α} {i:Nat} {x:α} (h:i < l.length):(l.set i x)[i]? = some x:=by simp [h]
theorem inl3 {α β γ ρ:Type} {a a':α} {b b':β} {c c':γ} (h1:a=a') (h2:b=b') (h3:c=c'):(some (.inl (a,b,c)):Option ((α×β×γ)⊕ρ))=some (.inl (a',b',c')):=by rw [h1,h2,h3]
theorem inl2 {α β ρ:Type} {a a':α} {b b':β} (h1:a=a') (h2:b=b'):(some (.inl (a,b)):Option ((α×β)⊕ρ))=some (.inl (a',b')):=by rw [h1,h2]
theorem ltF {a:Int} (h:0≤a):decide (a < 0)=false:=by simp; omega
theorem sumK1 {α:Type} (a:List α):kQ (fun _=>1) a=a.length:=by
 induction a with
 | nil=>rfl
 | cons x l ih=>simp [kQ,ih]; omega
theorem qA3 {α:Type} {w:α→Nat} {B:Nat}:∀ {a:List α},(∀ x ∈ a,w x≤B)→kQ w a≤a.length * B
 | [],_=>by simp [kQ]
 | x :: l,h=>by
  have h1:=h x (by simp)
  have h2:=qA3 (a:=l) (fun y hy=>h y (by simp [hy]))
  simp only [kQ,List.length_cons,Nat.add_mul]
  omega
end Go.TV.F
namespace Go.TV.F
open Go.TV
theorem qH1 (n a b:Int):vR n a b=some (decide (a≤n) && decide (n≤b)):=by
 unfold vR
 by_cases h:a≤n <;> simp [h]
theorem qE7 (n a b:Int):xS n a b=some (decide (a≤n) && decide (n≤b)):=by
 unfold xS
 by_cases h:a≤n <;> simp [h]
theorem isPlace_eq {n m:Int} (h0:0≤m) (h1:m≤1000000000):zN4 n m=some (decide (0≤n) && decide (n < m)):=by
 unfold zN4
 rw [qM (by omega) (by omega),qH1]
 have:decide (n≤m - 1)=decide (n < m):=by simp only [decide_eq_decide]; omega
 rw [this]
 rfl
theorem riseAt_nat {l:List Int} {n:Int} {i:Nat} (hi:i < l.length):zJ8 l n i=(decide (0≤l[i]) && decide (l[i]≤n - 1) && (i == 0 || decide (l.getD (i - 1) 0 < l[i]))):=by
 have e:l.getD i 0=l[i]:=by simp [hi]
 simp only [zJ8,e]
theorem ascends_eq {l:List Int} {n:Int} (hl:l.length≤1000000000) (hn:0≤n) (hn2:n≤1000000000):zN5 l n=some (rise l n):=by
 unfold zN5
 have hb:∀ k:Nat,k < l.length→kD l n k=some (if zJ8 l n k=true then .inl ((k+1:Nat):Int) else .inr (.inl false)):=by
  intro k hk
  unfold kD
  rw [ifT (by simpa using hk),zF,List.getElem?_eq_getElem hk,Option.bind_some,qM (x:=n - 1) (by omega) (by omega),qH1,Option.bind_some,riseAt_nat hk]
  cases h1:(decide (0≤l[k]) && decide (l[k]≤n - 1)) with
  | false=>simp
  | true =>
   rcases Nat.eq_zero_or_pos k with rfl | hp
   ·simp [qM]
   ·obtain ⟨j,rfl⟩:∃ j,k=j+1:=⟨k - 1,by omega⟩
    rw [qM (x:=((j+1:Nat):Int) - 1) (by omega) (by omega),show ((j+1:Nat):Int) - 1=(j:Int) by omega,zF,List.getElem?_eq_getElem (by omega)]
    rw [qM (by omega) (by omega)]
    have e:l.getD (j+1 - 1) 0=l[j]:=by simp [show j < l.length by omega]
    rw [e]
    by_cases q:l[j] < l[j+1]
    ·simp [q,show ¬l[j+1]≤l[j] by omega]
    ·simp [q,show l[j+1]≤l[j] by omega]
 have:=qA6 (body:=fun s'=>kD l n s') (good:=.inr ()) (bad:=.inl false) (fun k=>(k:Int)) l.length (zJ8 l n) (fun k hk _ hp=>by show kD l n k=_; rw [hb k hk,if_pos hp]) (fun k hk _ hp=>by show kD l n k=_; rw [hb k hk,hp]; rfl) (fun _=>by
  show kD l n l.length=_
  unfold kD
  rw [ifF (by simp)])
 rw [show (0:Int)=((0:Nat):Int) from rfl,this,Option.bind_some]
 unfold rise
 cases (List.range l.length).all (zJ8 l n) <;> rfl
theorem l05Rise_eq {l:List Int} {n:Int} (hl:l.length≤1000000000) (hn:0≤n) (hn2:n≤1000000000):zN6 l n=some (rise l n):=by
 unfold zN6
 have hb:∀ k:Nat,k < l.length→kC l n k=some (if zJ8 l n k=true then .inl ((k+1:Nat):Int) else .inr (.inl false)):=by
  intro k hk
  unfold kC
  rw [ifT (by simpa using hk),zF,List.getElem?_eq_getElem hk,Option.bind_some,qM (x:=n - 1) (by omega) (by omega),qE7,Option.bind_some,riseAt_nat hk]
  cases h1:(decide (0≤l[k]) && decide (l[k]≤n - 1)) with
  | false=>simp
  | true =>
   rcases Nat.eq_zero_or_pos k with rfl | hp
   ·simp [qM]
   ·obtain ⟨j,rfl⟩:∃ j,k=j+1:=⟨k - 1,by omega⟩
    rw [qM (x:=((j+1:Nat):Int) - 1) (by omega) (by omega),show ((j+1:Nat):Int) - 1=(j:Int) by omega,zF,List.getElem?_eq_getElem (by omega)]
    rw [qM (by omega) (by omega)]
    have e:l.getD (j+1 - 1) 0=l[j]:=by simp [show j < l.length by omega]
    rw [e]
    by_cases q:l[j] < l[j+1]
    ·simp [q,show ¬l[j+1]≤l[j] by omega]
    ·simp [q,show l[j+1]≤l[j] by omega]
 have:=qA6 (body:=fun s'=>kC l n s') (good:=.inr ()) (bad:=.inl false) (fun k=>(k:Int)) l.length (zJ8 l n) (fun k hk _ hp=>by show kC l n k=_; rw [hb k hk,if_pos hp]) (fun k hk _ hp=>by show kC l n k=_; rw [hb k hk,hp]; rfl) (fun _=>by
  show kC l n l.length=_
  unfold kC
  rw [ifF (by simp)])
 rw [show (0:Int)=((0:Nat):Int) from rfl,this,Option.bind_some]
 unfold rise
 cases (List.range l.length).all (zJ8 l n) <;> rfl
theorem gAt_nat {g:List (List Int)} {v:Nat} (hv:v < g.length):gAt g v=(decide (g[v].length≤4) && rise g[v] v):=by
 have:g.getD v []=g[v]:=by simp [hv]
 unfold gAt
 rw [this]
theorem graphOkI_eq {g:List (List Int)} (hl:g.length≤10000000):zP4 g=some (gOk g):=by
 unfold zP4
 have hb:∀ k:Nat,k < g.length→xZ g k=some (if gAt g k=true then .inl ((k+1:Nat):Int) else .inr (.inl false)):=by
  intro k hk
  unfold xZ
  rw [ifT (by simpa using hk),zF,List.getElem?_eq_getElem hk,Option.bind_some,gAt_nat hk]
  by_cases h4:g[k].length≤4
  ·rw [ascends_eq (by omega) (by omega) (by omega),qM (by omega) (by omega)]
   cases q:rise g[k] k <;> simp [h4,show ¬(4:Int) < (g[k].length:Int) by omega]
  ·simp [h4,show (4:Int) < (g[k].length:Int) by omega]
 have:=qA6 (body:=fun s'=>xZ g s') (good:=.inr ()) (bad:=.inl false) (fun k=>(k:Int)) g.length (gAt g) (fun k hk _ hp=>by show xZ g k=_; rw [hb k hk,if_pos hp]) (fun k hk _ hp=>by show xZ g k=_; rw [hb k hk,hp]; rfl) (fun _=>by
  show xZ g g.length=_
  unfold xZ
  rw [ifF (by simp)])
 rw [show (0:Int)=((0:Nat):Int) from rfl,this,Option.bind_some]
 unfold gOk
 cases (List.range g.length).all (gAt g)
 ·simp
 ·simp [zT4,show (g.length:Int)≤40↔g.length≤40 by omega]
theorem graphOkS_eq {g:List (List Int)} (hl:g.length≤10000000):zO4 g=some (gOk g):=by
 unfold zO4
 by_cases h40:g.length≤40
 ·rw [ifF (by simp; omega)]
  have hb:∀ k:Nat,k < g.length→kF g k=some (if gAt g k=true then .inl ((k+1:Nat):Int) else .inr (.inl false)):=by
   intro k hk
   unfold kF
   rw [ifT (by simpa using hk),zF,List.getElem?_eq_getElem hk,Option.bind_some,gAt_nat hk]
   by_cases h4:g[k].length≤4
   ·rw [l05Rise_eq (by omega) (by omega) (by omega),qM (by omega) (by omega)]
    cases q:rise g[k] k <;> simp [h4,show ¬(4:Int) < (g[k].length:Int) by omega]
   ·simp [h4,show (4:Int) < (g[k].length:Int) by omega]
  have:=qA6 (body:=fun s'=>kF g s') (good:=.inr ()) (bad:=.inl false) (fun k=>(k:Int)) g.length (gAt g) (fun k hk _ hp=>by show kF g k=_; rw [hb k hk,if_pos hp]) (fun k hk _ hp=>by show kF g k=_; rw [hb k hk,hp]; rfl) (fun _=>by
   show kF g g.length=_
   unfold kF
   rw [ifF (by simp)])
  rw [show (0:Int)=((0:Nat):Int) from rfl,this,Option.bind_some]
  unfold gOk
  cases (List.range g.length).all (gAt g) <;> simp [h40,zS9]
 ·rw [ifT (by simp; omega)]
  simp [gOk,h40]
abbrev us (c:List Nat):List Int:=c.map fun (s:Nat)=>(s:Int)
theorem unionOf_eq {c:List Nat} {l:List Int} (hc:∀ x ∈ c,x < 2 ^ 64) (hl:∀ x ∈ l,0≤x∧x < (c.length:Int)) (hll:l.length≤1000000000):zP1 (us c) l=some ((orL c l:Nat):Int):=by
 unfold zP1
 have:=uW (body:=fun (s':Int×Int)=>yK (us c) l s'.1 s'.2) (r:=((orL c l:Nat):Int)) (fun k=>(((orL c (l.take k):Nat):Int),(k:Int))) l.length (fun k hk=>by
  show yK (us c) l ((orL c (l.take k):Nat):Int) k=_
  unfold yK
  have hk2:=hl _ (List.getElem_mem hk)
  have e:c.getD l[k].toNat 0=c[l[k].toNat]'(by omega):=by simp [show l[k].toNat < c.length by omega]
  rw [ifT (by simpa using hk),zF,List.getElem?_eq_getElem hk,Option.bind_some,zP0 hk2.1 (by simp; omega),Option.bind_some,qM (by omega) (by omega),List.getElem_map,
   or_u64 (orL_lt hc _) (hc _ (List.getElem_mem _)),orL_take hk,e]
  rfl) (by
  show yK (us c) l ((orL c (l.take l.length):Nat):Int) l.length=_
  unfold yK
  rw [ifF (by simp),List.take_length])
 have e0:((0:Int),(0:Int))=(((orL c (l.take 0):Nat):Int),((0:Nat):Int)):=rfl
 rw [e0,this]
 rfl
theorem closures_eq {g:List (List Int)} (hg:gOk g=true):zH9 g=some (us (jA g g.length)):=by
 have h40:=kV hg
 unfold zH9
 rw [mkl_in (by omega) (by omega),Option.bind_some,Int.toNat_natCast]
 have:=uW (body:=fun (s':Int×(List Int))=>vT g s'.1 s'.2) (r:=us (jA g g.length)) (fun k=>((k:Int),us (jA g k))) g.length (fun k hk=>by
  show vT g k (us (jA g k))=_
  unfold vT
  have hlt:=qI1 h40 k (by omega)
  have hm:∀ x ∈ g[k],0≤x∧x < ((jA g k).length:Int):=fun x hx=>by
   have:=qA2 hg hk hx
   rw [zV3]
   omega
  have e:g.getD k []=g[k]:=by simp [hk]
  rw [ifT (by simpa using hk),zF,List.getElem?_eq_getElem hk,Option.bind_some,unionOf_eq hlt hm (by have:=(zX6 hg hk).1; omega),Option.bind_some,wku64 (by omega) (by omega),chk_in (by omega),Option.bind_some,
   zP0 (by omega) (by simp [zV3]; omega),Option.bind_some,shl_one (by omega),or_u64 (orL_lt hlt _) (Nat.pow_lt_pow_right (by decide) (by omega)),qM (by omega) (by omega),Int.toNat_natCast,jA,e]
  simp [us,List.map_set]) (by
  show vT g g.length (us (jA g g.length))=_
  unfold vT
  rw [ifF (by simp)])
 have e0:((0:Int),List.replicate g.length (0:Int))=(((0:Nat):Int),us (jA g 0)):=by simp [us,jA]
 rw [e0,this]
 rfl
theorem setHas_eq {s:Nat} {v:Int} (hs:s < 2 ^ 64):zM4 (s:Int) v=some (decide (0≤v) && decide (v≤63) && s.testBit v.toNat):=by
 unfold zM4
 rw [qH1,Option.bind_some]
 cases h:(decide (0≤v) && decide (v≤63)) with
 | false=>rfl
 | true =>
  have h':0≤v∧v≤63:=by simpa using h
  obtain ⟨n,rfl⟩:∃ n:Nat,v=n:=⟨v.toNat,by omega⟩
  rw [if_pos rfl,wku64 (by omega) (by omega),chk_in (by omega),Option.bind_some,shr_test s n hs (by omega),Int.toNat_natCast]
  rfl
theorem ints_len (l:List Nat):(zA6 l).length=l.length:=by simp [zA6]
theorem mark_keep {b:List Bool} {l:List Int} {v:Nat} (h:b.getD v false=true):(mark b l).getD v false=true:=by rw [zU8,h]; rfl
theorem l05Set_eq {g:List (List Int)} {l:List Int} (hg:gOk g=true) (hl:l.length≤1000000000):zR5 g l=some (setL g l):=by
 have h40:=kV hg
 unfold zR5
 rw [mkl_in (by omega) (by omega),Option.bind_some,Int.toNat_natCast]
 have h1:=uW (body:=fun (s':Int×(List Bool))=>uC g l s'.1 s'.2) (r:=mark (List.replicate g.length false) l) (fun k=>((k:Int),mark (List.replicate g.length false) (l.take k))) l.length (fun k hk=>by
  show uC g l k (mark (List.replicate g.length false) (l.take k))=_
  unfold uC
  rw [ifT (by simpa using hk),zF,List.getElem?_eq_getElem hk,Option.bind_some,qM (x:=(g.length:Int) - 1) (by omega) (by omega),qE7,Option.bind_some,qM (by omega) (by omega),mark_take hk,List.length_replicate]
  by_cases h:0≤l[k]∧l[k] < (g.length:Int)
  ·rw [if_pos h,ifT (by simp; omega),zP0 h.1 (by rw [zQ0]; simp; omega)]
   rfl
  ·rw [if_neg h,ifF (by simp; omega)]
   rfl) (by
  show uC g l l.length (mark (List.replicate g.length false) (l.take l.length))=_
  unfold uC
  rw [ifF (by simp),List.take_length])
 have e0:((0:Int),List.replicate g.length false)=(((0:Nat):Int),mark (List.replicate g.length false) (l.take 0)):=rfl
 rw [e0,h1,Option.bind_some]
 unfold zV4
 have hlen0:(mark (List.replicate g.length false) l).length=g.length:=by rw [zQ0]; simp
 -- the states of the second loop
 let B:Nat→List Bool:=fun k=>Nat.rec (mark (List.replicate g.length false) l) (fun k b=>wA g b (g.length - 1 - k)) k
 have B0:B 0=mark (List.replicate g.length false) l:=rfl
 have BS:∀ k,B (k+1)=wA g (B k) (g.length - 1 - k):=fun k=>rfl
 have Blen:∀ k,(B k).length=g.length:=by
  intro k
  induction k with
  | zero=>exact hlen0
  | succ k ih =>
   rw [BS,wA]
   split
   ·rw [zQ0]; exact ih
   ·exact ih
 have Bd:∀ m k,k+m=g.length→down g m (B k)=down g 0 (B g.length):=by
  intro m
  induction m with
  | zero=>intro k hk; rw [Nat.add_zero] at hk; subst hk; rfl
  | succ m ih =>
   intro k hk
   have:=ih (k+1) (by omega)
   rw [BS,show g.length - 1 - k=m by omega] at this
   exact this
 have h2:=uW (body:=fun (s':Int×(List Bool))=>uB g s'.1 s'.2) (r:=B g.length) (fun k=>((g.length:Int) - 1 - k,B k)) g.length (fun k hk=>by
  show uB g ((g.length:Int) - 1 - k) (B k)=_
  unfold uB
  obtain ⟨v,hv⟩:∃ v,g.length - 1 - k=v:=⟨_,rfl⟩
  have ev:(g.length:Int) - 1 - k=(v:Int):=by omega
  have hvl:v < g.length:=by omega
  have Bl:=Blen k
  rw [ev,ifT (by simp)]
  have egv:g.getD v []=g[v]:=by simp [hvl]
  have h3:=uW (body:=fun (s':Int×(List Bool))=>uA g v s'.1 s'.2) (r:=wA g (B k) v) (fun j=>((j:Int),mark (B k) (g[v].take j))) (if (B k).getD v false=true then g[v].length else 0) (fun j hj=>by
   show uA g v j (mark (B k) (g[v].take j))=_
   unfold uA
   split at hj
   case isFalse=>omega
   rename_i hb
   have hmem:=qA2 hg hvl (List.getElem_mem hj)
   have hml:(mark (B k) (g[v].take j)).length=g.length:=by rw [zQ0]; exact Bl
   have hkeep:(mark (B k) (g[v].take j))[v]? = some true:=by
    have:=mark_keep (l:=g[v].take j) hb
    rw [List.getD_eq_getElem?_getD] at this
    rw [List.getElem?_eq_getElem (by omega)] at this ⊢
    simpa using this
   rw [zF,List.getElem?_eq_getElem hvl,Option.bind_some,ifT (by simpa using hj),zF,hkeep]
   simp only [Option.bind_some]
   rw [if_pos trivial,zF,List.getElem?_eq_getElem hj,Option.bind_some,zP0 hmem.1 (by omega),Option.bind_some,qM (by have:=(zX6 hg hvl).1; omega) (by have:=(zX6 hg hvl).1; omega),mark_take hj,if_pos (by omega)]
   rfl) (by
   show uA g v ((if (B k).getD v false=true then g[v].length else 0:Nat):Int) (mark (B k) (g[v].take (if (B k).getD v false=true then g[v].length else 0)))=_
   unfold uA wA
   rw [zF,List.getElem?_eq_getElem hvl,Option.bind_some]
   split
   ·rename_i hb
    rw [List.take_length,ifF (by simp),egv]
    simp
   ·rename_i hb
    have hf:(B k)[v]? = some false:=by
     rw [List.getD_eq_getElem?_getD,List.getElem?_eq_getElem (by omega)] at hb
     rw [List.getElem?_eq_getElem (by omega)]
     simpa using hb
    rw [List.take_zero,show mark (B k) []=B k from rfl,zF,hf]
    by_cases q:(((0:Nat):Int) < (g[v].length:Int)) <;> simp [q])
  have e2:((0:Int),B k)=(((0:Nat):Int),mark (B k) (g[v].take 0)):=rfl
  rw [e2,h3,Option.bind_some]
  unfold zV9
  rw [qM (by omega) (by omega),BS,hv,show ((v:Int) - 1)=(g.length:Int) - 1 - ((k+1:Nat):Int) by omega]) (by
  show uB g ((g.length:Int) - 1 - g.length) (B g.length)=_
  unfold uB
  rw [ifF (by simp; omega)])
 have e3:(wk .i64 ((g.length:Int) - 1),mark (List.replicate g.length false) l)=((g.length:Int) - 1 - ((0:Nat):Int),B 0):=by rw [qM (by omega) (by omega),B0]; simp
 rw [e3,h2,Option.bind_some]
 unfold zW4 setL
 have:=Bd g.length 0 (by omega)
 rw [B0] at this
 rw [this]
 rfl
end Go.TV.F
namespace Go.TV.F
open Go.TV
theorem wkS (k:Nat) (h:k < 1000000000):wk .i64 ((k:Int)+1)=((k+1:Nat):Int):=by rw [qM (by omega) (by omega)]; omega
theorem toList_loop (bs:ByteArray):∀ (m i:Nat) (r:List UInt8),i+m=bs.size→ByteArray.toList.loop bs i r=r.reverse++bs.data.toList.drop i
 | 0,i,r,h=>by
  rw [ByteArray.toList.loop,if_neg (by omega),List.drop_eq_nil_of_le (by show bs.data.toList.length≤i; have:bs.data.toList.length=bs.size:=rfl; omega),List.append_nil]
 | m+1,i,r,h=>by
  have hi:i < bs.data.toList.length:=by have:bs.data.toList.length=bs.size:=rfl; omega
  rw [ByteArray.toList.loop,if_pos (by omega),toList_loop bs m (i+1) _ (by omega),List.drop_eq_getElem_cons hi]
  have e:bs.get! i=bs.data.toList[i]:=by
   show bs.data[i]! = _
   rw [getElem!_pos bs.data i (by simpa using hi)]
   simp
  rw [e]
  simp
theorem toList_eq (bs:ByteArray):bs.toList=bs.data.toList:=by
 unfold ByteArray.toList
 rw [toList_loop bs bs.size 0 [] (by omega)]
 simp
def nb (s:ByteArray):List Nat:=s.data.toList.map UInt8.toNat
theorem zQ9 (s:ByteArray):(nb s).length=s.size:=by simp [nb]
theorem nb_inj {s t:ByteArray} (h:nb s=nb t):s=t:=by
 have:s.data.toList=t.data.toList:=List.map_inj_right (fun a b hab=>UInt8.toNat_inj.1 hab) |>.1 h
 exact ByteArray.ext (Array.toList_inj.1 this)
theorem beq_nb (s t:ByteArray):(s.toList == t.toList)=decide (nb s=nb t):=by
 rw [toList_eq,toList_eq]
 by_cases h:nb s=nb t
 ·have:=nb_inj h
  subst this
  simp
 ·rw [decide_eq_false h,beq_eq_false_iff_ne]
  intro he
  exact h (by unfold nb; rw [he])
theorem nb_lt {s:ByteArray} {x:Nat} (h:x ∈ nb s):x < 256:=by
 obtain ⟨b,_,rfl⟩:=List.mem_map.1 h
 exact UInt8.toNat_lt b
theorem sidx_nb {s:ByteArray} {k:Nat} (h:k < s.size):∃ b:Nat,sidx s (k:Int)=some (b:Int)∧(nb s)[k]? = some b∧b < 256:=by
 unfold sidx
 rw [if_neg (by omega),Int.toNat_natCast,if_pos h]
 have hk:k < s.data.size:=h
 refine ⟨(s.data[k]).toNat,?_,?_,UInt8.toNat_lt _⟩
 ·unfold bt
  congr 2
  rw [Array.getD_eq_getD_getElem?,Array.getElem?_eq_getElem hk]
  rfl
 ·simp [nb,hk,Array.getElem?_eq_getElem hk]
theorem zQ6 (s:ByteArray) (a b:Nat):nb (s.extract a b)=((nb s).drop a).take (b - a):=by
 have:(s.extract a b).data=s.data.extract a b:=ByteArray.data_extract
 unfold nb
 rw [this,Array.toList_extract]
 simp [List.extract]
theorem nb_mkS {l:List Nat} (h:∀ x ∈ l,x < 256):nb (mkS (l.map fun x:Nat=>(x:Int)))=l:=by
 unfold nb mkS
 simp only [List.map_map]
 conv=>rhs; rw [← List.map_id l]
 apply List.map_congr_left
 intro x hx
 have:=h x hx
 simp
 omega
theorem nb_append (s t:ByteArray):nb (s++t)=nb s++nb t:=by
 unfold nb
 rw [ByteArray.data_append]
 simp
theorem qF3 (l:List Int):(mkS l).size=l.length:=by
 show (mkS l).data.size=_
 simp [mkS]
def uQ (s:ByteArray):Bool:=decide (s.size≤60) && decide ((10:Nat) ∉ nb s)
theorem lineS_eq {s:ByteArray} (h:s.size≤1000000000):zR4 s=some (uQ s):=by
 unfold zR4 uQ
 have hl:=zQ9 s
 have:=qA6 (body:=fun s'=>uY s s') (good:=.inr ()) (bad:=.inl false) (fun k=>(k:Int)) s.size (fun k=>decide ((nb s)[k]?≠some 10)) (fun k hk _ hp=>by
  obtain ⟨b,g1,g2,_⟩:=sidx_nb hk
  unfold uY
  rw [ifT (by simpa using hk),g1,Option.bind_some]
  rw [g2] at hp
  have hb:¬b=10:=by simpa using hp
  rw [ifF (by simp; omega),wkS k (by omega)]) (fun k hk _ hp=>by
  obtain ⟨b,g1,g2,_⟩:=sidx_nb hk
  unfold uY
  rw [ifT (by simpa using hk),g1,Option.bind_some]
  rw [g2] at hp
  have hb:b=10:=by simpa using hp
  rw [ifT (by simp; omega)]) (fun _=>by
  unfold uY
  rw [ifF (by simp)])
 have e0:((0:Nat):Int)=0:=rfl
 rw [e0] at this
 rw [this]
 have hiff:((List.range s.size).all fun k=>decide ((nb s)[k]?≠some 10))=decide ((10:Nat) ∉ nb s):=by
  rw [Bool.eq_iff_iff,List.all_eq_true,decide_eq_true_eq]
  constructor
  ·intro hh hm
   obtain ⟨k,hk,hk2⟩:=List.getElem_of_mem hm
   have:=hh k (List.mem_range.2 (by omega))
   rw [List.getElem?_eq_getElem hk,hk2] at this
   simp at this
  ·intro hh k hk
   simp only [decide_eq_true_eq]
   intro hq
   exact hh (List.mem_of_getElem? hq)
 rw [hiff]
 unfold zW3
 cases decide ((10:Nat) ∉ nb s) with
 | true =>
  simp
  omega
 | false=>simp
theorem contains_one (l:List UInt8) (c:UInt8):Go.Lib.contains l [c]=decide (c.toNat ∈ l.map UInt8.toNat):=by
 unfold Go.Lib.contains
 induction l with
 | nil=>rfl
 | cons b l ih =>
  have hp:[c].isPrefixOf (b :: l)=(c == b):=by simp [List.isPrefixOf]
  unfold Go.Lib.index
  rw [hp,List.map_cons]
  by_cases h:c=b
  ·subst h
   simp
  ·have h':(c == b)=false:=by simpa using h
   have hn:c.toNat≠b.toNat:=fun q=>h (UInt8.toNat_inj.1 q)
   rw [h',if_neg (by simp)]
   have hm:decide (c.toNat ∈ b.toNat :: l.map UInt8.toNat)=decide (c.toNat ∈ l.map UInt8.toNat):=by
    rw [decide_eq_decide,List.mem_cons]
    exact ⟨fun q=>q.resolve_left hn,.inr⟩
   rw [hm,← ih]
   have hge:=Go.Lib.index_ge l [c]
   by_cases hr:Go.Lib.index l [c] = -1
   ·rw [hr]; rfl
   ·rw [if_neg (by simpa using hr)]
    rw [decide_eq_decide]
    omega
theorem lineI_eq {s:ByteArray}:zX9 s=some (uQ s):=by
 unfold zX9 uQ
 by_cases q:s.size≤60
 ·rw [ifT (by simp; omega)]
  have hc:strings_Contains s (ByteArray.mk #[10])=some (decide ((10:Nat) ∈ nb s)):=by
   unfold strings_Contains
   rw [if_pos (by omega)]
   exact congrArg some (contains_one s.data.toList 10)
  rw [hc]
  simp only [Option.bind_some]
  have:decide (s.size≤60)=true:=decide_eq_true q
  rw [this,Bool.true_and]
  congr 1
  by_cases h:(10:Nat) ∈ nb s <;> simp [h]
 ·rw [ifF (by simp; omega)]
  simp [q]
end Go.TV.F
namespace Go.TV.F
open Go.TV
theorem orO (a b:Bool):(if a=true then some true else some b)=some (a || b):=by cases a <;> rfl
theorem all_loopN {β:Type} {body:Int→Option (Int⊕(β⊕Unit))} {bad:β} (n:Nat) (p:Nat→Bool)
  (hs:∀ k,k < n→(∀ j,j < k→p j=true)→body (k:Int)=some (if p k=true then .inl ((k+1:Nat):Int) else .inr (.inl bad)))
  (he:body (n:Int)=some (.inr (.inr ()))):zC body 0=some (if (List.range n).all p=true then .inr () else .inl bad):=
 qA6 (ρ:=β⊕Unit) (good:=Sum.inr ()) (bad:=Sum.inl bad) (fun k=>(k:Int)) n p (fun k hk hj hp=>by rw [hs k hk hj,if_pos hp]) (fun k hk hj hp=>by rw [hs k hk hj,hp]; rfl) (fun _=>he)
theorem qL8 {α β ρ:Type} {body:Int×List β→Option ((Int×List β)⊕ρ)} (l:List α) (f:α→β) (fin:List β→ρ) (hl:l.length≤1000000000)
  (hs:∀ (k:Nat) (x:α) (out:List β),l[k]? = some x→k < l.length→out.length≤1000000000→body ((k:Int),out)=some (.inl (((k+1:Nat):Int),out++[f x])))
  (he:∀ out:List β,body ((l.length:Int),out)=some (.inr (fin out))):zC body (0,[])=some (fin (l.map f)):=by
 have h:=uW (body:=body) (r:=fin (l.map f)) (fun k=>((k:Int),(l.take k).map f)) l.length (fun k hk=>by
  rw [hs k l[k] _ (List.getElem?_eq_getElem hk) hk (by simp; omega),List.take_add_one,List.getElem?_eq_getElem hk,List.map_append]
  rfl) (by rw [List.take_length]; exact he _)
 simpa using h
theorem getD_in {α:Type} {l:List α} {i:Nat} {d:α} (h:i < l.length):l.getD i d=l[i]:=by
 rw [List.getD_eq_getElem?_getD,List.getElem?_eq_getElem h]
 rfl
theorem getD_some {α:Type} {l:List α} {i:Nat} {d x:α} (h:l[i]? = some x):l.getD i d=x:=by
 rw [List.getD_eq_getElem?_getD,h]
 rfl
def xW {α:Type} (p:α→Bool):List α→Int
 | []=>-1
 | x :: l=>if p x=true then 0 else if xW p l = -1 then -1 else xW p l+1
theorem qH7 {α:Type} (p:α→Bool):∀ l:List α,-1≤xW p l
 | []=>by simp [xW]
 | x :: l=>by
  have:=qH7 p l
  unfold xW
  split
  ·omega
  ·split <;> omega
theorem fidx_lt {α:Type} (p:α→Bool):∀ l:List α,xW p l < l.length
 | []=>by simp [xW]
 | x :: l=>by
  have:=fidx_lt p l
  unfold xW
  rw [List.length_cons]
  split
  ·omega
  ·split <;> omega
theorem qJ5 {α:Type} (p:α→Bool):∀ l:List α,xW p l = -1↔∀ x ∈ l,p x=false
 | []=>by simp [xW]
 | x :: l=>by
  have ih:=qJ5 p l
  have hg:=qH7 p l
  unfold xW
  by_cases h:p x=true
  ·rw [if_pos h]
   constructor
   ·intro h; omega
   ·intro q
    have:=q x (by simp)
    rw [h] at this
    cases this
  ·rw [if_neg h]
   have h':p x=false:=by simpa using h
   by_cases q:xW p l = -1
   ·rw [if_pos q]
    have:=ih.1 q
    simp [h',this]
    exact this
   ·rw [if_neg q]
    constructor
    ·intro h; omega
    ·intro r
     exact absurd (ih.2 fun y hy=>r y (by simp [hy])) q
theorem fidx_some {α:Type} (p:α→Bool):∀ (l:List α) (k:Nat),xW p l=k↔∃ h:k < l.length,p l[k]=true∧∀ (j:Nat) (hj:j < k),p (l[j]'(by omega))=false
 | [],k=>by
  constructor
  ·intro h
   have:xW p ([]:List α) = -1:=rfl
   omega
  ·rintro ⟨h,_⟩
   simp at h
 | x :: l,k=>by
  have hg:=qH7 p l
  unfold xW
  by_cases h:p x=true
  ·rw [if_pos h]
   constructor
   ·intro hk
    have:k=0:=by omega
    subst this
    exact ⟨by simp,h,fun j hj=>by omega⟩
   ·rintro ⟨h1,h2,h3⟩
    rcases Nat.eq_zero_or_pos k with rfl | hk
    ·rfl
    ·have:=h3 0 hk
     simp only [List.getElem_cons_zero] at this
     rw [h] at this
     cases this
  ·have h':p x=false:=by simpa using h
   rw [if_neg h]
   cases k with
   | zero =>
    constructor
    ·intro hk
     split at hk <;> omega
    ·rintro ⟨_,h2,_⟩
     simp only [List.getElem_cons_zero] at h2
     rw [h'] at h2
     cases h2
   | succ k =>
    have ih:=fidx_some p l k
    constructor
    ·intro hk
     have hk':xW p l=k:=by
      split at hk <;> omega
     obtain ⟨h1,h2,h3⟩:=ih.1 hk'
     refine ⟨by simp; omega,by simpa using h2,fun j hj=>?_⟩
     cases j with
     | zero=>simpa using h'
     | succ j=>simpa using h3 j (by omega)
    ·rintro ⟨h1,h2,h3⟩
     have hk':xW p l=k:=ih.2 ⟨by simp at h1; omega,by simpa using h2,fun j hj=>by simpa using h3 (j+1) (by omega)⟩
     rw [if_neg (by omega)]
     omega
theorem fidx_loop {α:Type} {body:Int→Option (Int⊕(Int⊕Unit))} (l:List α) (p:α→Bool)
  (hs:∀ (k:Nat) (x:α),l[k]? = some x→k < l.length→body (k:Int)=some (if p x=true then .inr (.inl (k:Int)) else .inl ((k+1:Nat):Int)))
  (he:body (l.length:Int)=some (.inr (.inr ()))):zC body 0=some (if xW p l = -1 then .inr () else .inl (xW p l)):=by
 have key:∀ (m k:Nat),k+m=l.length→(∀ (j:Nat) (hj:j < k) (h2:j < l.length),p l[j]=false)→zC body (k:Int)=some (if xW p l = -1 then .inr () else .inl (xW p l)):=by
  intro m
  induction m with
  | zero =>
   intro k hk hp
   have:k=l.length:=by omega
   subst this
   rw [zJ,he,if_pos]
   ·rfl
   ·rw [qJ5]
    intro x hx
    obtain ⟨j,hj,rfl⟩:=List.getElem_of_mem hx
    exact hp j hj hj
  | succ m ih =>
   intro k hk hp
   have hlt:k < l.length:=by omega
   rw [zJ,hs k l[k] (List.getElem?_eq_getElem hlt) hlt]
   by_cases q:p l[k]=true
   ·rw [if_pos q]
    have e:xW p l=k:=(fidx_some p l k).2 ⟨hlt,q,fun j hj=>hp j hj (by omega)⟩
    rw [if_neg (by omega),e]
    rfl
   ·rw [if_neg q]
    refine ih (k+1) (by omega) (fun j hj h2=>?_)
    rcases Nat.lt_succ_iff_lt_or_eq.1 hj with h | rfl
    ·exact hp j h h2
    ·simpa using q
 exact key l.length 0 (by omega) (fun j hj=>by omega)
end Go.TV.F
namespace Go.TV.F
open Go.TV
def b0 (s:ByteArray) (i:Nat):Nat:=(nb s).getD i 0
end Go.TV.F
namespace Go.TV.F
open Go.TV
def idN (l:List T_impl_Name) (id:Int):Int:=xW (fun n=>n.Id == id) l
def bN:T_impl_Name:=⟨ByteArray.mk #[],0,0⟩
def smN (l:List T_impl_Name):Prop:=∀ n ∈ l,n.Path.size≤1000000000
def smC (c:T_impl_Commit):Prop:=c.Note.size≤1000000000∧smN c.Names
end Go.TV.F
namespace Go.TV.F
open Go.TV
def inB (x:Int):Bool:=decide (0≤x) && decide (x≤63)
def setN (l:List Int):Nat:=l.foldl (fun (s:Nat) (x:Int)=>if inB x=true then s ||| 2 ^ x.toNat else s) 0
theorem setN_snoc (l:List Int) (x:Int):setN (l++[x])=if inB x=true then setN l ||| 2 ^ x.toNat else setN l:=by
 simp [setN]
theorem setN_take {l:List Int} {i:Nat} (hi:i < l.length):setN (l.take (i+1))=if inB l[i]=true then setN (l.take i) ||| 2 ^ l[i].toNat else setN (l.take i):=by
 rw [List.take_succ_eq_append_getElem hi,setN_snoc]
theorem inB_lt {x:Int} (h:inB x=true):0≤x∧x≤63:=by simpa [inB] using h
theorem fold_lt (l:List Int):∀ s:Nat,s < 2 ^ 64→l.foldl (fun (s:Nat) (x:Int)=>if inB x=true then s ||| 2 ^ x.toNat else s) s < 2 ^ 64:=by
 induction l with
 | nil=>intro s h; exact h
 | cons x l ih =>
  intro s h
  rw [List.foldl_cons]
  refine ih _ ?_
  split
  ·rename_i q
   have:=inB_lt q
   exact Nat.or_lt_two_pow h (Nat.pow_lt_pow_right (by decide) (by omega))
  ·exact h
theorem setN_lt (l:List Int):setN l < 2 ^ 64:=fold_lt l 0 (by decide)
theorem fold_test (l:List Int) (u:Nat):∀ s:Nat,(l.foldl (fun (s:Nat) (x:Int)=>if inB x=true then s ||| 2 ^ x.toNat else s) s).testBit u=(s.testBit u || l.any fun x=>inB x && (x == (u:Int))):=by
 induction l with
 | nil=>intro s; simp
 | cons x l ih =>
  intro s
  rw [List.foldl_cons,ih,List.any_cons]
  by_cases q:inB x=true
  ·have:=inB_lt q
   rw [if_pos q,Nat.testBit_or,Nat.testBit_two_pow,q,Bool.true_and,Bool.or_assoc]
   have e:decide (x.toNat=u)=(x == (u:Int)):=by
    rw [Bool.eq_iff_iff]
    simp
    omega
   rw [e]
  ·rw [if_neg q]
   have q:inB x=false:=by simpa using q
   rw [q]
   simp
theorem setN_test (l:List Int) (u:Nat):(setN l).testBit u=l.any fun x=>inB x && (x == (u:Int)):=by
 unfold setN
 rw [fold_test]
 simp
theorem setOf_eq {l:List Int} (hl:l.length≤1000000000):qA9 l=some ((setN l:Nat):Int):=by
 unfold qA9
 have:=uW (body:=fun (s':Int×Int)=>uP l s'.1 s'.2) (r:=((setN l:Nat):Int)) (fun k=>(((setN (l.take k):Nat):Int),(k:Int))) l.length (fun k hk=>by
  show uP l _ (k:Int)=_
  unfold uP
  rw [ifT (by simpa using hk),zF,List.getElem?_eq_getElem hk,Option.bind_some,qH1,Option.bind_some,qM (x:=(k:Int)+1) (by omega) (by omega),setN_take hk]
  show (if inB l[k]=true then _ else _)=_
  by_cases q:inB l[k]=true
  ·have h:=inB_lt q
   rw [if_pos q,if_pos q,wku64 (x:=l[k]) (by omega) (by omega),chk_in (by omega),Option.bind_some]
   obtain ⟨n,hn⟩:∃ n:Nat,l[k]=n:=⟨l[k].toNat,by omega⟩
   have h1:=setN_lt (l.take k)
   have h2:(2:Nat) ^ n < 2 ^ 64:=Nat.pow_lt_pow_right (by decide) (by omega)
   rw [hn,shl_one (by omega),or_u64 h1 h2]
   rfl
  ·rw [if_neg q,if_neg q]
   rfl) (by
  show uP l _ (l.length:Int)=_
  unfold uP
  rw [ifF (by simp),List.take_length])
 rw [show ((0:Int),(0:Int))=(((setN (l.take 0):Nat):Int),((0:Nat):Int)) from rfl,this]
 rfl
end Go.TV.F
namespace Go.TV.F
open Go.TV
def goE {α β ρ:Type} (wA:Nat→β→α→β⊕ρ) (fin:β→ρ):List α→Nat→β→ρ
 | [],_,b=>fin b
 | x :: l,i,b=>match wA i b x with
  | .inl b'=>goE wA fin l (i+1) b'
  | .inr r=>r
theorem loopE {S ρ α β:Type} {body:S→Option (S⊕ρ)} (mk:Nat→β→S) (l:List α) (wA:Nat→β→α→β⊕ρ) (fin:β→ρ) (I:Nat→β→Prop)
  (hs:∀ (i:Nat) (x:α) (b:β),l[i]? = some x→i < l.length→I i b→(∃ b',wA i b x=.inl b'∧body (mk i b)=some (.inl (mk (i+1) b'))∧I (i+1) b')∨∃ r,wA i b x=.inr r∧body (mk i b)=some (.inr r))
  (he:∀ b,I l.length b→body (mk l.length b)=some (.inr (fin b))) {b0:β} (h0:I 0 b0):zC body (mk 0 b0)=some (goE wA fin l 0 b0):=by
 have key:∀ (l' pre:List α) (b:β),l=pre++l'→I pre.length b→zC body (mk pre.length b)=some (goE wA fin l' pre.length b):=by
  intro l'
  induction l' with
  | nil =>
   intro pre b h hI
   rw [List.append_nil] at h
   subst h
   rw [zJ,he b hI]
   rfl
  | cons x l' ih =>
   intro pre b h hI
   have hx:l[pre.length]? = some x:=by rw [h]; simp
   have hlt:pre.length < l.length:=by rw [h]; simp
   rw [zJ]
   rcases hs pre.length x b hx hlt hI with ⟨b',h1,h2,h3⟩ | ⟨r,h1,h2⟩
   ·rw [h2]
    have:=ih (pre++[x]) b' (by simp [h]) (by simpa using h3)
    simp only [List.length_append,List.length_singleton] at this
    simp only [goE,h1]
    exact this
   ·rw [h2]
    have:goE wA fin (x :: l') pre.length b=r:=by simp only [goE,h1]
    rw [this]
    rfl
 exact key l [] b0 rfl h0
theorem zZ0 {ρ α:Type} {body:Int→Option (Int⊕ρ)} {good bad:ρ} (l:List α) (p:α→Bool) (hs:∀ (i:Nat) (x:α),l[i]? = some x→i < l.length→body (i:Int)=some (if p x=true then .inl ((i+1:Nat):Int) else .inr bad))
  (he:body (l.length:Int)=some (.inr good)):zC body 0=some (if l.all p=true then good else bad):=by
 have key:∀ (l' pre:List α),l=pre++l'→zC body (pre.length:Int)=some (if l'.all p=true then good else bad):=by
  intro l'
  induction l' with
  | nil =>
   intro pre h
   rw [List.append_nil] at h
   subst h
   rw [zJ,he]
   rfl
  | cons x l' ih =>
   intro pre h
   have hx:l[pre.length]? = some x:=by rw [h]; simp
   have hlt:pre.length < l.length:=by rw [h]; simp
   rw [zJ,hs _ _ hx hlt,List.all_cons]
   cases q:p x with
   | true =>
    have:=ih (pre++[x]) (by simp [h])
    simp only [List.length_append,List.length_singleton] at this
    simpa using this
   | false=>rfl
 exact key l [] rfl
def idxs {α:Type} (p:α→Bool):List α→Nat→List Nat
 | [],_=>[]
 | x :: l,i=>if p x=true then i :: idxs p l (i+1) else idxs p l (i+1)
theorem idxs_len {α:Type} (p:α→Bool):∀ (l:List α) (i:Nat),(idxs p l i).length≤l.length
 | [],_=>Nat.le_refl _
 | x :: l,i=>by
  have:=idxs_len p l (i+1)
  simp only [idxs]
  split <;> simp <;> omega
theorem idxs_mem {α:Type} (p:α→Bool):∀ (l:List α) (i j:Nat),j ∈ idxs p l i↔i≤j∧∃ x,l[j - i]? = some x∧p x=true
 | [],i,j=>by simp [idxs]
 | x :: l,i,j=>by
  have ih:=idxs_mem p l (i+1) j
  simp only [idxs]
  have hs:i+1≤j→(x :: l)[j - i]? = l[j - (i+1)]?:=fun h=>by
   rw [show j - i=(j - (i+1))+1 by omega,List.getElem?_cons_succ]
  split
  ·rename_i hp
   rw [List.mem_cons,ih]
   constructor
   ·rintro (rfl | ⟨h1,h2⟩)
    ·exact ⟨Nat.le_refl _,x,by simp,hp⟩
    ·exact ⟨by omega,by rw [hs h1]; exact h2⟩
   ·rintro ⟨h1,y,h2,h3⟩
    rcases Nat.eq_or_lt_of_le h1 with q | q
    ·exact .inl q.symm
    ·exact .inr ⟨q,y,by rw [← hs q]; exact h2,h3⟩
  ·rename_i hp
   rw [ih]
   constructor
   ·rintro ⟨h1,h2⟩
    exact ⟨by omega,by rw [hs h1]; exact h2⟩
   ·rintro ⟨h1,y,h2,h3⟩
    rcases Nat.eq_or_lt_of_le h1 with q | q
    ·subst q
     simp only [Nat.sub_self,List.getElem?_cons_zero,Option.some.injEq] at h2
     subst h2
     exact absurd h3 hp
    ·exact ⟨q,y,by rw [← hs q]; exact h2,h3⟩
theorem idxs_go {α:Type} (p:α→Bool):∀ (l:List α) (i:Nat) (out:List Int),goE (ρ:=List Int) (fun i (b:List Int) x=>.inl (if p x=true then b++[(i:Int)] else b)) id l i out=out++zA6 (idxs p l i)
 | [],_,out=>by simp [goE,idxs,zA6]
 | x :: l,i,out=>by
  simp only [goE,idxs]
  rw [idxs_go p l (i+1)]
  split <;> simp [zA6]
def outB (s:Nat) (d:Int):Bool:=!(inB d && s.testBit d.toNat)
def zE8 (s:Nat) (b:T_impl_Body):Bool:=(inB b.Ins && s.testBit b.Ins.toNat) && b.Dels.all (outB s)
theorem has_eq {s:Nat} {v:Int} (hs:s < 2 ^ 64):zM4 (s:Int) v=some (inB v && s.testBit v.toNat):=by
 rw [setHas_eq hs]
 rfl
theorem and_zero {a s:Nat}:(((a &&& s:Nat):Int) == 0)=true↔∀ u,¬(a.testBit u=true∧s.testBit u=true):=by
 rw [beq_iff_eq]
 constructor
 ·intro h u hu
  have h0:a &&& s=0:=by omega
  have:=congrArg (fun z=>z.testBit u) h0
  simp [Nat.testBit_and,hu.1,hu.2] at this
 ·intro h
  have:a &&& s=0:=Nat.eq_of_testBit_eq (fun u=>by
   rw [Nat.testBit_and,Nat.zero_testBit]
   cases h1:a.testBit u <;> cases h2:s.testBit u <;> simp
   exact h u ⟨h1,h2⟩)
  rw [this]
  rfl
theorem dels_out (l:List Int) (s:Nat):(((setN l &&& s:Nat):Int) == 0)=l.all (outB s):=by
 rw [Bool.eq_iff_iff,and_zero,List.all_eq_true]
 constructor
 ·intro h x hx
  unfold outB
  cases hi:inB x with
  | false=>rfl
  | true =>
   cases hb:s.testBit x.toNat with
   | false=>rfl
   | true =>
    refine absurd ⟨?_,hb⟩ (h x.toNat)
    rw [setN_test,List.any_eq_true]
    have:=inB_lt hi
    exact ⟨x,hx,by rw [hi]; simp; omega⟩
 ·rintro h u ⟨h1,h2⟩
  rw [setN_test,List.any_eq_true] at h1
  obtain ⟨x,hx,h3⟩:=h1
  simp only [Bool.and_eq_true,beq_iff_eq] at h3
  have:=h x hx
  unfold outB at this
  rw [h3.1,h3.2] at this
  simp [h2] at this
theorem isLive_eq {b:T_impl_Body} {s:Nat} (hs:s < 2 ^ 64) (hl:b.Dels.length≤1000000000):vX b (s:Int)=some (zE8 s b):=by
 unfold vX zE8
 rw [has_eq hs,Option.bind_some]
 cases q:(inB b.Ins && s.testBit b.Ins.toNat) with
 | false=>rfl
 | true =>
  rw [ifT rfl,setOf_eq hl,Option.bind_some,and_u64 (setN_lt _) hs,dels_out]
  rfl
def agree (t:List Bool) (s:Nat):Prop:=t.length≤64∧∀ u,t.getD u false=s.testBit u
theorem agree_at {t:List Bool} {s:Nat} (h:agree t s) (v:Int):(decide (0≤v) && decide (v≤(t.length:Int) - 1) && t.getD v.toNat false)=(inB v && s.testBit v.toNat):=by
 rw [h.2]
 have hl:=h.1
 unfold inB
 by_cases q0:0≤v
 ·by_cases q1:v≤(t.length:Int) - 1
  ·have:v≤63:=by omega
   simp [q0,q1,this]
  ·have hb:s.testBit v.toNat=false:=by
    rw [← h.2,List.getD_eq_getElem?_getD,List.getElem?_eq_none (by omega)]
    rfl
   simp [hb]
 ·simp [q0]
theorem l06Live_eq {b:T_impl_Body} {t:List Bool} {s:Nat} (ha:agree t s) (hl:b.Dels.length≤1000000000):zB7 b t=some (zE8 s b):=by
 have hat:=agree_at ha
 have ht:=ha.1
 have get:∀ {v:Int},0≤v→v≤(t.length:Int) - 1→zI t v=some (t.getD v.toNat false):=fun {v} h0 h1=>by
  rw [zP0 h0 (by omega),List.getD_eq_getElem?_getD,List.getElem?_eq_getElem (by omega)]
  rfl
 unfold zB7 zE8
 rw [qM (by omega) (by omega),qE7,Option.bind_some,← hat b.Ins]
 cases q0:(decide (0≤b.Ins) && decide (b.Ins≤(t.length:Int) - 1)) with
 | false=>rfl
 | true =>
  have q0':=q0
  simp only [Bool.and_eq_true,decide_eq_true_eq] at q0'
  rw [ifF (b:=!true) rfl,get q0'.1 q0'.2,Option.bind_some]
  simp only [Option.bind_some]
  cases q1:t.getD b.Ins.toNat false with
  | false=>rfl
  | true =>
   rw [ifF (b:=!true) rfl]
   have:=zZ0 (body:=fun s'=>zD0 b t s') (good:=.inr ()) (bad:=.inl false) b.Dels (outB s) (fun i x hi hlt=>by
    unfold zD0
    rw [ifT (by simpa using hlt),zF,hi,Option.bind_some,qM (by omega) (by omega),qE7,Option.bind_some,wkS i (by omega)]
    unfold outB
    rw [← hat x]
    cases q2:(decide (0≤x) && decide (x≤(t.length:Int) - 1)) with
    | false=>rfl
    | true =>
     have q2':=q2
     simp only [Bool.and_eq_true,decide_eq_true_eq] at q2'
     rw [ifT rfl,get q2'.1 q2'.2]
     simp only [Option.bind_some]
     cases t.getD x.toNat false <;> rfl) (by
    unfold zD0
    rw [ifF (by simp)])
   rw [this,Option.bind_some]
   cases b.Dels.all (outB s) <;> rfl
def qC1 (w:T_impl_Weave):Prop:=w.Bodies.length≤1000000000∧∀ b ∈ w.Bodies,b.Dels.length≤1000000000
def places (s:Nat) (w:T_impl_Weave):List Nat:=idxs (zE8 s) w.Bodies 0
theorem liveIn_eq {w:T_impl_Weave} {s:Nat} (hs:s < 2 ^ 64) (hw:qC1 w):yE w (s:Int)=some (zA6 (places s w)):=by
 have hwl:=hw.1
 unfold yE places
 have:=loopE (body:=fun (s':Int×List Int)=>xF w s s'.1 s'.2) (fun i b=>((i:Int),b)) w.Bodies (fun i (b:List Int) x=>(.inl (if zE8 s x=true then b++[(i:Int)] else b):List Int⊕List Int)) id (fun i b=>b.length≤i) (fun i x b hi hlt hI=>by
  left
  refine ⟨_,rfl,?_,?_⟩
  ·show xF w s i b=_
   unfold xF
   rw [ifT (by simpa using hlt),zF,hi,Option.bind_some]
   show (vX x s).bind _=_
   rw [isLive_eq hs (hw.2 x (List.mem_of_getElem? hi)),Option.bind_some,wkS i (by omega)]
   cases zE8 s x with
   | true=>rw [ifT rfl,zK (by simp; omega),Option.bind_some]; rfl
   | false=>rfl
  ·split <;> (try simp only [List.length_append,List.length_singleton]) <;> omega) (fun b hI=>by
  show xF w s w.Bodies.length b=_
  unfold xF
  rw [ifF (by simp)]
  rfl) (b0:=[]) (by simp)
 have e0:((0:Nat):Int)=0:=rfl
 rw [e0] at this
 rw [this,idxs_go,Option.bind_some,List.nil_append]
 rfl
theorem qN2 {w:T_impl_Weave} {t:List Bool} {s:Nat} (ha:agree t s) (hw:qC1 w):uE w t=some (zA6 (places s w)):=by
 have hwl:=hw.1
 unfold uE places
 have:=loopE (body:=fun (s':Int×List Int)=>kX w t s'.1 s'.2) (fun i b=>((i:Int),b)) w.Bodies (fun i (b:List Int) x=>(.inl (if zE8 s x=true then b++[(i:Int)] else b):List Int⊕List Int)) id (fun i b=>b.length≤i) (fun i x b hi hlt hI=>by
  left
  refine ⟨_,rfl,?_,?_⟩
  ·show kX w t i b=_
   unfold kX
   rw [ifT (by simpa using hlt),zF,hi,Option.bind_some]
   show (zB7 x t).bind _=_
   rw [l06Live_eq ha (hw.2 x (List.mem_of_getElem? hi)),Option.bind_some,wkS i (by omega)]
   cases zE8 s x with
   | true=>rw [ifT rfl,zK (by simp; omega),Option.bind_some]; rfl
   | false=>rfl
  ·split <;> (try simp only [List.length_append,List.length_singleton]) <;> omega) (fun b hI=>by
  show kX w t w.Bodies.length b=_
  unfold kX
  rw [ifF (by simp)]
  rfl) (b0:=[]) (by simp)
 have e0:((0:Nat):Int)=0:=rfl
 rw [e0] at this
 rw [this,idxs_go,Option.bind_some,List.nil_append]
 rfl
def qE0 (w:T_impl_Weave) (ps:List Nat):List ByteArray:=ps.map fun i=>(w.Bodies[i]?.map (·.Line)).getD (ByteArray.mk #[])
theorem lines_go (w:T_impl_Weave):∀ (ps:List Int) (i:Nat) (out:List ByteArray),goE (ρ:=List ByteArray) (fun _ (b:List ByteArray) (x:Int)=>.inl (b++[(w.Bodies[x.toNat]?.map (·.Line)).getD (ByteArray.mk #[])])) id ps i out=out++ps.map (fun x=>(w.Bodies[x.toNat]?.map (·.Line)).getD (ByteArray.mk #[]))
 | [],_,out=>by simp [goE]
 | x :: l,i,out=>by
  simp only [goE]
  rw [lines_go w l (i+1)]
  simp
theorem linesAt_eq {w:T_impl_Weave} {ps:List Nat} (hp:∀ i ∈ ps,i < w.Bodies.length) (hl:ps.length≤1000000000):zB9 w (zA6 ps)=some (qE0 w ps)∧zI8 w (zA6 ps)=some (qE0 w ps):=by
 have hil:=ints_len ps
 have hmem:∀ {i:Nat} {x:Int},(zA6 ps)[i]? = some x→0≤x∧x < w.Bodies.length∧∃ b,w.Bodies[x.toNat]? = some b:=fun {i x} h=>by
  obtain ⟨n,hn,rfl⟩:=List.mem_map.1 (List.mem_of_getElem? h)
  have:=hp n hn
  exact ⟨by omega,by omega,w.Bodies[n],by simp [this]⟩
 have e0:((0:Nat):Int)=0:=rfl
 have emap:(zA6 ps).map (fun x=>(w.Bodies[x.toNat]?.map (·.Line)).getD (ByteArray.mk #[]))=qE0 w ps:=by
  unfold zA6 qE0
  rw [List.map_map]
  rfl
 constructor
 ·unfold zB9
  have:=loopE (body:=fun (s':Int×List ByteArray)=>jR w (zA6 ps) s'.1 s'.2) (fun i b=>((i:Int),b)) (zA6 ps) (fun _ (b:List ByteArray) (x:Int)=>(.inl (b++[(w.Bodies[x.toNat]?.map (·.Line)).getD (ByteArray.mk #[])]):List ByteArray⊕List ByteArray)) id (fun i b=>b.length≤i) (fun i x b hi hlt hI=>by
   left
   obtain ⟨h1,h2,bd,h3⟩:=hmem hi
   refine ⟨_,rfl,?_,by simp; omega⟩
   show jR w (zA6 ps) i b=_
   unfold jR
   have hg:zI w.Bodies x=some bd:=by
    rw [show x=((x.toNat:Nat):Int) by omega,zF]
    simpa using h3
   rw [ifT (by simpa using hlt),zF,hi,Option.bind_some,hg,Option.bind_some,zK (by simp; omega),Option.bind_some,wkS i (by omega),h3]
   rfl) (fun b hI=>by
   show jR w (zA6 ps) (zA6 ps).length b=_
   unfold jR
   rw [ifF (by simp)]
   rfl) (b0:=[]) (by simp)
  rw [e0] at this
  rw [this,lines_go,Option.bind_some,List.nil_append,emap]
  rfl
 ·unfold zI8
  have:=loopE (body:=fun (s':Int×List ByteArray)=>vU w (zA6 ps) s'.1 s'.2) (fun i b=>((i:Int),b)) (zA6 ps) (fun _ (b:List ByteArray) (x:Int)=>(.inl (b++[(w.Bodies[x.toNat]?.map (·.Line)).getD (ByteArray.mk #[])]):List ByteArray⊕List ByteArray)) id (fun i b=>b.length≤i) (fun i x b hi hlt hI=>by
   left
   obtain ⟨h1,h2,bd,h3⟩:=hmem hi
   refine ⟨_,rfl,?_,by simp; omega⟩
   show vU w (zA6 ps) i b=_
   unfold vU
   have hg:zI w.Bodies x=some bd:=by
    rw [show x=((x.toNat:Nat):Int) by omega,zF]
    simpa using h3
   rw [ifT (by simpa using hlt),zF,hi,Option.bind_some,hg,Option.bind_some,zK (by simp; omega),Option.bind_some,wkS i (by omega),h3]
   rfl) (fun b hI=>by
   show vU w (zA6 ps) (zA6 ps).length b=_
   unfold vU
   rw [ifF (by simp)]
   rfl) (b0:=[]) (by simp)
  rw [e0] at this
  rw [this,lines_go,Option.bind_some,List.nil_append,emap]
  rfl
end Go.TV.F
namespace Go.TV.F
open Go.TV
end Go.TV.F
namespace Go.TV.F
open Go.TV
theorem agree_set {g:List (List Int)} (hg:gOk g=true) {l:List Int} (hl:∀ x ∈ l,0≤x∧x < (g.length:Int)):agree (setL g l) (orL (jA g g.length) l):=by
 refine ⟨by rw [setL_len]; have:=kV hg; omega,fun u=>?_⟩
 rw [Bool.eq_iff_iff,setL_get hg,orL_test,List.any_eq_true]
 constructor
 ·rintro ⟨x,h1,h2,h3,h4⟩
  exact ⟨x,h1,h4⟩
 ·rintro ⟨x,h1,h4⟩
  exact ⟨x,h1,(hl x h1).1,(hl x h1).2,h4⟩
theorem orL_one (c:List Nat) (v:Int):orL c [v]=c.getD v.toNat 0:=by
 unfold orL
 simp
theorem agree_one {g:List (List Int)} (hg:gOk g=true) {v:Int} (h0:0≤v) (h1:v < (g.length:Int)):agree (setL g [v]) (clo g v.toNat):=by
 have:=agree_set hg (l:=[v]) (fun x hx=>by
  obtain rfl:=List.mem_singleton.1 hx
  exact ⟨h0,h1⟩)
 rw [orL_one] at this
 exact this
def seenN (g:List (List Int)) (d:Int):Nat:=orL (jA g g.length) (g.getD d.toNat [])
def bodB (g:List (List Int)) (born:List Int) (b:T_impl_Body):Bool:=
 uQ b.Line && (decide (0≤b.Ins) && decide (b.Ins≤(g.length:Int) - 1)) && (b.Ord == born.getD b.Ins.toNat 0) && rise b.Dels g.length && b.Dels.all fun d=>zE8 (seenN g d) b
def bstep (g:List (List Int)) (i:Nat) (born:List Int) (b:T_impl_Body):List Int⊕(Bool⊕List Int):=
 if bodB g born b=true then .inl (born.set b.Ins.toNat (born.getD b.Ins.toNat 0+1)) else .inr (.inl false)
def zT9 (w:T_impl_Weave):Bool⊕List Int:=goE (bstep w.Parents) .inr w.Bodies 0 (List.replicate w.Parents.length 0)
def finB (w:T_impl_Weave) (born:List Int):Bool:=(List.range w.Parents.length).all fun v=>decide (born.getD v 0≤80) && decide ((places (clo w.Parents v) w).length≤80)
def wOk (w:T_impl_Weave):Bool:=gOk w.Parents && decide (w.Bodies.length≤300) && match zT9 w with
 | .inl b=>b
 | .inr born=>finB w born
theorem us_get {c:List Nat} {v:Int} (h0:0≤v) (h1:v < (c.length:Int)):zI (us c) v=some ((c.getD v.toNat 0:Nat):Int):=by
 have hl:(us c).length=c.length:=by simp [us]
 rw [zP0 h0 (by omega)]
 congr 1
 simp only [us,List.getElem_map]
 rw [List.getD_eq_getElem?_getD,List.getElem?_eq_getElem (by omega)]
 rfl
theorem goE_inl {α β ρ:Type} {wA:Nat→β→α→β⊕ρ} {fin:β→ρ} (J:ρ→Prop) (I:Nat→β→Prop):∀ (l:List α) (i:Nat) (b:β),I i b→(∀ i x b,I i b→match wA i b x with | .inl b'=>I (i+1) b' | .inr r=>J r)→(∀ b i,I i b→J (fin b))→J (goE wA fin l i b)
 | [],i,b,h,_,hf=>hf b i h
 | x :: l,i,b,h,hs,hf=>by
  have:=hs i x b h
  simp only [goE]
  split
  ·rename_i b' hb
   rw [hb] at this
   exact goE_inl J I l (i+1) b' this hs hf
  ·rename_i r hr
   rw [hr] at this
   exact this
def bornI (n:Nat) (i:Nat) (born:List Int):Prop:=born.length=n∧∀ v,0≤born.getD v 0∧born.getD v 0≤i
theorem bornI_0 (n:Nat):bornI n 0 (List.replicate n 0):=⟨by simp,fun v=>by
 rw [List.getD_eq_getElem?_getD,List.getElem?_replicate]
 split <;> simp⟩
theorem qA5 {α:Type} (l:List α) (v u:Nat) (a d:α):(l.set v a).getD u d=if v=u∧u < l.length then a else l.getD u d:=by
 simp only [List.getD_eq_getElem?_getD,List.getElem?_set]
 by_cases h:v=u
 ·subst h
  by_cases h2:v < l.length
  ·simp [h2]
  ·simp [h2]
 ·simp [h]
theorem bornI_set {n i:Nat} {born:List Int} (h:bornI n i born) {v:Nat}:bornI n (i+1) (born.set v (born.getD v 0+1)):=by
 refine ⟨by rw [List.length_set]; exact h.1,fun u=>?_⟩
 have hu:=h.2 u
 have hv:=h.2 v
 rw [qA5]
 split <;> omega
theorem born_get {n i:Nat} {born:List Int} (h:bornI n i born) {v:Int} (h0:0≤v) (h1:v≤(n:Int) - 1):zI born v=some (born.getD v.toNat 0):=by
 have:=h.1
 rw [zP0 h0 (by omega),List.getD_eq_getElem?_getD,List.getElem?_eq_getElem (by omega)]
 rfl
theorem bornOf_I {w:T_impl_Weave} (hl:w.Bodies.length≤300):match zT9 w with | .inl b=>b=false | .inr born=>born.length=w.Parents.length∧∀ v,0≤born.getD v 0:=by
 unfold zT9
 refine goE_inl (J:=fun (r:Bool⊕List Int)=>match r with | .inl b=>b=false | .inr born=>born.length=w.Parents.length∧∀ v,0≤born.getD v 0) (bornI w.Parents.length) w.Bodies 0 _ (bornI_0 _) (fun i x b hI=>?_) (fun b i hI=>⟨hI.1,fun v=>(hI.2 v).1⟩)
 unfold bstep
 by_cases q:bodB w.Parents b x=true
 ·rw [if_pos q]
  exact bornI_set hI
 ·rw [if_neg q]
theorem bodiesI {w:T_impl_Weave} (hg:gOk w.Parents=true) (hw:qC1 w) (hb:w.Bodies.length≤300) :
  zC (fun (s':Int×(List Int))=>jN w (us (jA w.Parents w.Parents.length)) s'.1 s'.2) (0,List.replicate w.Parents.length 0)=some (zT9 w):=by
 have hgl:=kV hg
 have hcl:(jA w.Parents w.Parents.length).length=w.Parents.length:=zV3 _ _
 have hul:(us (jA w.Parents w.Parents.length)).length=w.Parents.length:=by rw [show (us (jA w.Parents w.Parents.length)).length=(jA w.Parents w.Parents.length).length by simp [us],hcl]
 have hlt:=qI1 hgl w.Parents.length (Nat.le_refl _)
 have:=loopE (body:=fun (s':Int×(List Int))=>jN w (us (jA w.Parents w.Parents.length)) s'.1 s'.2) (fun i b=>((i:Int),b)) w.Bodies (bstep w.Parents) .inr (bornI w.Parents.length) (fun i x born hi hil hI=>by
  have hx:=List.mem_of_getElem? hi
  have hdl:=hw.2 x hx
  have wA:jN w (us (jA w.Parents w.Parents.length)) i born=some (if bodB w.Parents born x=true then .inl (((i+1:Nat):Int),born.set x.Ins.toNat (born.getD x.Ins.toNat 0+1)) else .inr (.inl false)):=by
   unfold jN bodB
   rw [ifT (by simpa using hil),zF,hi,Option.bind_some,lineI_eq,Option.bind_some,hul,isPlace_eq (by omega) (by omega),ascends_eq hdl (by omega) (by omega)]
   cases uQ x.Line with
   | false=>rfl
   | true =>
    have e1:(decide (0≤x.Ins) && decide (x.Ins < (w.Parents.length:Int)))=(decide (0≤x.Ins) && decide (x.Ins≤(w.Parents.length:Int) - 1)):=by
     rw [Bool.eq_iff_iff]
     simp
     omega
    simp only [Option.bind_some,Bool.not_true,Bool.false_eq_true,if_false,e1]
    cases q1:(decide (0≤x.Ins) && decide (x.Ins≤(w.Parents.length:Int) - 1)) with
    | false=>rfl
    | true =>
     simp only [Bool.and_eq_true,decide_eq_true_eq] at q1
     simp only [Option.bind_some,Bool.not_true,Bool.false_eq_true,if_false,born_get hI q1.1 q1.2]
     cases q2:(x.Ord == born.getD x.Ins.toNat 0) with
     | false =>
      have:(x.Ord != born.getD x.Ins.toNat 0)=true:=by simp only [bne,q2]; rfl
      rw [this]
      rfl
     | true =>
      have:(x.Ord != born.getD x.Ins.toNat 0)=false:=by simp only [bne,q2]; rfl
      rw [this]
      simp only [Option.bind_some,Bool.false_eq_true,if_false]
      cases q3:rise x.Dels (w.Parents.length:Int) with
      | false=>rfl
      | true =>
       simp only [Option.bind_some,Bool.not_true,Bool.false_eq_true,if_false]
       have hloop:=zZ0 (body:=fun s'=>uZ w (us (jA w.Parents w.Parents.length)) x s') (good:=.inr ()) (bad:=.inl (.inr (.inl false))) x.Dels (fun d=>zE8 (seenN w.Parents d) x) (fun k d hk hkl=>by
        have hdm:=qD6 q3 (List.mem_of_getElem? hk)
        have hdn:d.toNat < w.Parents.length:=by omega
        have hgd:zI w.Parents d=some (w.Parents[d.toNat]'hdn):=zP0 hdm.1 (by omega)
        have hgD:w.Parents.getD d.toNat []=w.Parents[d.toNat]'hdn:=by rw [List.getD_eq_getElem?_getD,List.getElem?_eq_getElem hdn]; rfl
        unfold uZ
        rw [ifT (by simpa using hkl),zF,hk,Option.bind_some,hgd,Option.bind_some,unionOf_eq hlt (fun y hy=>by
         have:=qA2 hg hdn hy
         rw [hcl]
         omega) (by have:=(zX6 hg hdn).1; omega),Option.bind_some]
        show (vX x _).bind _=_
        rw [isLive_eq (orL_lt hlt _) hdl,Option.bind_some,wkS k (by omega)]
        unfold seenN
        rw [hgD]
        cases zE8 (orL (jA w.Parents w.Parents.length) w.Parents[d.toNat]) x <;> rfl) (by
        unfold uZ
        rw [ifF (by simp)])
       rw [hloop,Option.bind_some]
       have hbv:=hI.2 x.Ins.toNat
       rw [qM (x:=born.getD x.Ins.toNat 0+1) (by omega) (by omega)]
       simp only [Bool.and_true,Bool.true_and]
       cases x.Dels.all (fun d=>zE8 (seenN w.Parents d) x) with
       | false=>rfl
       | true =>
        simp only [if_true]
        unfold zQ4
        rw [wkS i (by omega)]
  unfold bstep
  by_cases q:bodB w.Parents born x=true
  ·left
   refine ⟨_,if_pos q,?_,bornI_set hI⟩
   show jN w _ i born=_
   rw [wA,if_pos q]
  ·right
   refine ⟨_,if_neg q,?_⟩
   show jN w _ i born=_
   rw [wA,if_neg q]) (fun b hI=>by
  show jN w _ w.Bodies.length b=_
  unfold jN
  rw [ifF (by simp)]) (bornI_0 _)
 exact this
theorem bodiesS {w:T_impl_Weave} (hg:gOk w.Parents=true) (hw:qC1 w) (hb:w.Bodies.length≤300) (hx:∀ b ∈ w.Bodies,b.Line.size≤1000000000) :
  zC (fun (s':Int×(List Int))=>xI w (w.Parents.map (setL w.Parents)) s'.1 s'.2) (0,List.replicate w.Parents.length 0)=some (zT9 w):=by
 have hgl:=kV hg
 have:=loopE (body:=fun (s':Int×(List Int))=>xI w (w.Parents.map (setL w.Parents)) s'.1 s'.2) (fun i b=>((i:Int),b)) w.Bodies (bstep w.Parents) .inr (bornI w.Parents.length) (fun i x born hi hil hI=>by
  have hxm:=List.mem_of_getElem? hi
  have hdl:=hw.2 x hxm
  have wA:xI w (w.Parents.map (setL w.Parents)) i born=some (if bodB w.Parents born x=true then .inl (((i+1:Nat):Int),born.set x.Ins.toNat (born.getD x.Ins.toNat 0+1)) else .inr (.inl false)):=by
   unfold xI bodB
   rw [ifT (by simpa using hil),zF,hi,Option.bind_some,lineS_eq (hx x hxm),Option.bind_some,qM (x:=(w.Parents.length:Int) - 1) (by omega) (by omega),qE7,l05Rise_eq hdl (by omega) (by omega)]
   cases uQ x.Line with
   | false=>rfl
   | true =>
    simp only [Option.bind_some,Bool.not_true,Bool.false_eq_true,if_false]
    cases q1:(decide (0≤x.Ins) && decide (x.Ins≤(w.Parents.length:Int) - 1)) with
    | false=>rfl
    | true =>
     simp only [Bool.and_eq_true,decide_eq_true_eq] at q1
     simp only [Option.bind_some,Bool.not_true,Bool.false_eq_true,if_false,born_get hI q1.1 q1.2]
     cases q2:(x.Ord == born.getD x.Ins.toNat 0) with
     | false =>
      have:(x.Ord != born.getD x.Ins.toNat 0)=true:=by simp only [bne,q2]; rfl
      rw [this]
      rfl
     | true =>
      have:(x.Ord != born.getD x.Ins.toNat 0)=false:=by simp only [bne,q2]; rfl
      rw [this]
      simp only [Option.bind_some,Bool.false_eq_true,if_false]
      cases q3:rise x.Dels (w.Parents.length:Int) with
      | false=>rfl
      | true =>
       simp only [Option.bind_some,Bool.not_true,Bool.false_eq_true,if_false]
       have hloop:=zZ0 (body:=fun s'=>zC6 (w.Parents.map (setL w.Parents)) x s') (good:=.inr ()) (bad:=.inl (.inr (.inl false))) x.Dels (fun d=>zE8 (seenN w.Parents d) x) (fun k d hk hkl=>by
        have hdm:=qD6 q3 (List.mem_of_getElem? hk)
        have hdn:d.toNat < w.Parents.length:=by omega
        have hgd:zI (w.Parents.map (setL w.Parents)) d=some (setL w.Parents (w.Parents[d.toNat]'hdn)):=by
         rw [zP0 hdm.1 (by rw [List.length_map]; omega),List.getElem_map]
        have hgD:w.Parents.getD d.toNat []=w.Parents[d.toNat]'hdn:=by rw [List.getD_eq_getElem?_getD,List.getElem?_eq_getElem hdn]; rfl
        unfold zC6
        rw [ifT (by simpa using hkl),zF,hk,Option.bind_some,hgd,Option.bind_some]
        show (zB7 x _).bind _=_
        rw [l06Live_eq (agree_set hg (fun y hy=>by
         have:=qA2 hg hdn hy
         omega)) hdl,Option.bind_some,wkS k (by omega)]
        unfold seenN
        rw [hgD]
        cases zE8 (orL (jA w.Parents w.Parents.length) w.Parents[d.toNat]) x <;> rfl) (by
        unfold zC6
        rw [ifF (by simp)])
       rw [hloop,Option.bind_some]
       have hbv:=hI.2 x.Ins.toNat
       rw [qM (x:=born.getD x.Ins.toNat 0+1) (by omega) (by omega)]
       simp only [Bool.and_true,Bool.true_and]
       cases x.Dels.all (fun d=>zE8 (seenN w.Parents d) x) with
       | false=>rfl
       | true =>
        simp only [if_true]
        unfold zS6
        rw [wkS i (by omega)]
  unfold bstep
  by_cases q:bodB w.Parents born x=true
  ·left
   refine ⟨_,if_pos q,?_,bornI_set hI⟩
   show xI w _ i born=_
   rw [wA,if_pos q]
  ·right
   refine ⟨_,if_neg q,?_⟩
   show xI w _ i born=_
   rw [wA,if_neg q]) (fun b hI=>by
  show xI w _ w.Bodies.length b=_
  unfold xI
  rw [ifF (by simp)]) (bornI_0 _)
 exact this
theorem places_len (s:Nat) (w:T_impl_Weave):(places s w).length≤w.Bodies.length:=idxs_len _ _ _
theorem bodiesOkI {w:T_impl_Weave} (hg:gOk w.Parents=true) (hw:qC1 w) (hb:w.Bodies.length≤300):zI9 w (us (jA w.Parents w.Parents.length))=some (match zT9 w with | .inl b=>b | .inr born=>finB w born):=by
 have hgl:=kV hg
 have hcl:(jA w.Parents w.Parents.length).length=w.Parents.length:=zV3 _ _
 have hul:(us (jA w.Parents w.Parents.length)).length=w.Parents.length:=by rw [show (us (jA w.Parents w.Parents.length)).length=(jA w.Parents w.Parents.length).length by simp [us],hcl]
 unfold zI9
 rw [hul,mkl_in (by omega) (by omega),Option.bind_some,Int.toNat_natCast,bodiesI hg hw hb,Option.bind_some]
 have hbo:=bornOf_I (w:=w) hb
 cases h:zT9 w with
 | inl b=>rfl
 | inr born =>
  rw [h] at hbo
  show zH1 w _ born=some (finB w born)
  unfold zH1 finB
  have hloop:=zZ0 (body:=fun s'=>zA9 w (us (jA w.Parents w.Parents.length)) born s') (good:=.inr ()) (bad:=.inl false) (List.range w.Parents.length) (fun v=>decide (born.getD v 0≤80) && decide ((places (clo w.Parents v) w).length≤80)) (fun i v hv hvl=>by
   rw [List.length_range] at hvl
   rw [List.getElem?_range hvl] at hv
   obtain rfl:=zso hv
   unfold zA9
   have hc:zI (us (jA w.Parents w.Parents.length)) (i:Int)=some ((clo w.Parents i:Nat):Int):=by
    rw [us_get (by omega) (by omega),Int.toNat_natCast]
    rfl
   have hbg:zI born (i:Int)=some (born.getD i 0):=by
    rw [zF,List.getD_eq_getElem?_getD,List.getElem?_eq_getElem (by omega)]
    rfl
   rw [hul,ifT (by simpa using hvl),hc,Option.bind_some,hbg,Option.bind_some]
   have hlv:yE (T_impl_Weave.mk w.Parents w.Bodies) ((clo w.Parents i:Nat):Int)=some (zA6 (places (clo w.Parents i) w)):=liveIn_eq (clo_lt hg i) hw
   rw [hlv,Option.bind_some,ints_len,wkS i (by omega)]
   by_cases q1:born.getD i 0≤80
   ·rw [ifF (b:=decide (born.getD i 0 > 80)) (decide_eq_false (by omega)),decide_eq_true q1,Option.bind_some,Bool.true_and]
    by_cases q2:(places (clo w.Parents i) w).length≤80
    ·rw [ifF (by simp; omega),decide_eq_true q2]
     rfl
    ·rw [ifT (by simp; omega),decide_eq_false q2]
     rfl
   ·rw [ifT (b:=decide (born.getD i 0 > 80)) (decide_eq_true (by omega)),decide_eq_false q1,Option.bind_some]
    rfl) (by
   unfold zA9
   rw [ifF (by simp [hul])])
  rw [hloop,Option.bind_some]
  cases (List.range w.Parents.length).all (fun v=>decide (born.getD v 0≤80) && decide ((places (clo w.Parents v) w).length≤80)) <;> rfl
theorem weaveOkI {w:T_impl_Weave} (hl:w.Parents.length≤10000000) (hw:qC1 w):zN8 w=some (wOk w):=by
 have hwl:=hw.1
 unfold zN8 wOk
 rw [graphOkI_eq hl,Option.bind_some]
 by_cases q1:w.Bodies.length≤300
 ·rw [ifT (b:=decide ((w.Bodies.length:Int)≤300)) (by simp; omega),decide_eq_true q1]
  cases q2:gOk w.Parents with
  | false=>rfl
  | true =>
   simp only [Option.bind_some,if_true]
   rw [closures_eq q2,Option.bind_some]
   show (zI9 w _).bind _ >>= _=_
   rw [bodiesOkI q2 hw q1]
   rfl
 ·rw [ifF (b:=decide ((w.Bodies.length:Int)≤300)) (by simp; omega),decide_eq_false q1]
  cases gOk w.Parents <;> rfl
theorem proper_loop {w:T_impl_Weave} (hg:gOk w.Parents=true):zC (fun (s':Int×(List (List Bool)))=>vM w s'.1 s'.2) (0,[])=some (w.Parents.map (setL w.Parents)):=by
 have hgl:=kV hg
 have:=loopE (body:=fun (s':Int×(List (List Bool)))=>vM w s'.1 s'.2) (fun i b=>((i:Int),b)) w.Parents (fun _ (b:List (List Bool)) x=>(.inl (b++[setL w.Parents x]):List (List Bool)⊕List (List Bool))) id (fun i b=>b.length=i) (fun i x b hi hil hI=>by
  left
  refine ⟨_,rfl,?_,by simp [hI]⟩
  show vM w i b=_
  unfold vM
  have hxl:x.length≤4:=by
   have:=(zX6 hg hil).1
   rw [List.getElem?_eq_getElem hil] at hi
   obtain rfl:=zso hi
   exact this
  rw [ifT (by simpa using hil),zF,hi,Option.bind_some,l05Set_eq hg (by omega),Option.bind_some,zK (by simp; omega),Option.bind_some,wkS i (by omega)]) (fun b hI=>by
  show vM w w.Parents.length b=_
  unfold vM
  rw [ifF (by simp)]
  rfl) (b0:=[]) rfl
 have key:∀ (l:List (List Int)) (i:Nat) (out:List (List Bool)),goE (ρ:=List (List Bool)) (fun _ (b:List (List Bool)) x=>.inl (b++[setL w.Parents x])) id l i out=out++l.map (setL w.Parents):=by
  intro l
  induction l with
  | nil=>intro i out; simp [goE]
  | cons x l ih=>intro i out; simp only [goE]; rw [ih]; simp
 have e0:((0:Nat):Int)=0:=rfl
 rw [e0] at this
 rw [this,key,List.nil_append]
theorem closureS {w:T_impl_Weave} (hg:gOk w.Parents=true) (v:Int):yN w v=some (setL w.Parents [v]):=by
 unfold yN
 rw [l05Set_eq hg (by simp),Option.bind_some]
theorem weaveOkS {w:T_impl_Weave} (hl:w.Parents.length≤10000000) (hw:qC1 w) (hx:∀ b ∈ w.Bodies,b.Line.size≤1000000000):zU9 w=some (wOk w):=by
 have hwl:=hw.1
 unfold zU9 wOk
 rw [graphOkS_eq hl,Option.bind_some]
 cases q2:gOk w.Parents with
 | false=>rfl
 | true =>
  simp only [Bool.not_true,Bool.false_eq_true,if_false,Option.bind_some,Bool.true_and]
  by_cases q1:w.Bodies.length≤300
  ·rw [ifF (b:=decide ((w.Bodies.length:Int) > 300)) (by simp; omega),decide_eq_true q1,Bool.true_and]
   have hgl:=kV q2
   rw [mkl_in (by omega) (by omega),Option.bind_some,Int.toNat_natCast,proper_loop q2,Option.bind_some]
   unfold zT1
   rw [bodiesS q2 hw q1 hx,Option.bind_some]
   have hbo:=bornOf_I (w:=w) q1
   cases h:zT9 w with
   | inl b=>rfl
   | inr born =>
    rw [h] at hbo
    show zK5 w born=some (finB w born)
    unfold zK5 finB
    have hloop:=zZ0 (body:=fun s'=>zC7 w born s') (good:=.inr ()) (bad:=.inl false) (List.range w.Parents.length) (fun v=>decide (born.getD v 0≤80) && decide ((places (clo w.Parents v) w).length≤80)) (fun i v hv hvl=>by
     rw [List.length_range] at hvl
     rw [List.getElem?_range hvl] at hv
     obtain rfl:=zso hv
     unfold zC7
     have hbg:zI born (i:Int)=some (born.getD i 0):=by
      rw [zF,List.getD_eq_getElem?_getD,List.getElem?_eq_getElem (by omega)]
      rfl
     rw [ifT (by simpa using hvl),hbg,Option.bind_some]
     have hcl:yN (T_impl_Weave.mk w.Parents w.Bodies) (i:Int)=some (setL w.Parents [(i:Int)]):=closureS (w:=w) q2 _
     have hpl:uE (T_impl_Weave.mk w.Parents w.Bodies) (setL w.Parents [(i:Int)])=some (zA6 (places (clo w.Parents i) w)):=by
      have:=agree_one q2 (v:=(i:Int)) (by omega) (by omega)
      rw [Int.toNat_natCast] at this
      exact qN2 this hw
     rw [hcl]
     simp only [Option.bind_some]
     rw [hpl]
     simp only [Option.bind_some]
     rw [ints_len,wkS i (by omega)]
     by_cases q1:born.getD i 0≤80
     ·rw [ifF (b:=decide (born.getD i 0 > 80)) (decide_eq_false (by omega)),decide_eq_true q1,Option.bind_some,Bool.true_and]
      by_cases q2:(places (clo w.Parents i) w).length≤80
      ·rw [ifF (by simp; omega),decide_eq_true q2]
       rfl
      ·rw [ifT (by simp; omega),decide_eq_false q2]
       rfl
     ·rw [ifT (b:=decide (born.getD i 0 > 80)) (decide_eq_true (by omega)),decide_eq_false q1,Option.bind_some]
      rfl) (by
     unfold zC7
     rw [ifF (by simp)])
    rw [hloop,Option.bind_some]
    cases (List.range w.Parents.length).all (fun v=>decide (born.getD v 0≤80) && decide ((places (clo w.Parents v) w).length≤80)) <;> rfl
  ·rw [ifT (b:=decide ((w.Bodies.length:Int) > 300)) (by simp; omega),decide_eq_false q1]
   rfl
end Go.TV.F
namespace Go.TV.F
open Go.TV
structure WSm (w:T_impl_Weave):Prop where
 p:w.Parents.length≤10000000
 d:qC1 w
 l:∀ b ∈ w.Bodies,b.Line.size≤1000000000
theorem places_lt (s:Nat) (w:T_impl_Weave):∀ i ∈ places s w,i < w.Bodies.length:=fun i hi=>by
 obtain ⟨_,x,hx,_⟩:=(idxs_mem _ _ _ _).1 hi
 rw [Nat.sub_zero] at hx
 exact (List.getElem?_eq_some_iff.1 hx).1
theorem all_ne (v:Int):∀ l:List Int,l.all (fun x=>!(x == v))=!l.contains v
 | []=>rfl
 | x :: l=>by
  rw [List.all_cons,List.contains_cons,Bool.not_or,all_ne v l]
  have:(x == v)=(v == x):=by rw [Bool.eq_iff_iff,beq_iff_eq,beq_iff_eq]; exact eq_comm
  rw [this]
theorem l07In_eq {l:List Int} {v:Int} (hl:l.length≤1000000000):zV5 l v=some (l.contains v):=by
 unfold zV5
 have:=zZ0 (body:=fun s'=>zH8 l v s') (good:=.inr ()) (bad:=.inl true) l (fun x=>!(x == v)) (fun i x hi hil=>by
  unfold zH8
  rw [ifT (by simpa using hil),zF,hi,Option.bind_some,wkS i (by omega)]
  cases (x == v) <;> rfl) (by
  unfold zH8
  rw [ifF (by simp)])
 rw [this,Option.bind_some]
 rw [all_ne]
 cases l.contains v <;> rfl
end Go.TV.F
namespace Go.TV.F
open Go.TV
def stat (g:List (List Int)) (b:T_impl_Body):Bool:=uQ b.Line && (decide (0≤b.Ins) && decide (b.Ins≤(g.length:Int) - 1)) && rise b.Dels g.length && b.Dels.all fun d=>zE8 (seenN g d) b
def inc (c:Int→Int) (x:Int):Int→Int:=fun y=>if y=x then c y+1 else c y
def okF (g:List (List Int)):(Int→Int)→List T_impl_Body→Prop
 | _,[]=>True
 | c,b :: l=>stat g b=true∧b.Ord=c b.Ins∧okF g (inc c b.Ins) l
def cnts:(Int→Int)→List T_impl_Body→Int→Int
 | c,[]=>c
 | c,b :: l=>cnts (inc c b.Ins) l
theorem bodB_iff {g:List (List Int)} {born:List Int} {c:Int→Int} (hc:∀ v:Nat,v < g.length→born.getD v 0=c v) (b:T_impl_Body):bodB g born b=true↔stat g b=true∧b.Ord=c b.Ins:=by
 unfold bodB stat
 simp only [Bool.and_eq_true,decide_eq_true_eq,beq_iff_eq]
 constructor
 ·rintro ⟨⟨⟨⟨h1,h2,h3⟩,h4⟩,h5⟩,h6⟩
  refine ⟨⟨⟨⟨h1,h2,h3⟩,h5⟩,h6⟩,?_⟩
  rw [h4,hc _ (by omega)]
  congr 1
  omega
 ·rintro ⟨⟨⟨⟨h1,h2,h3⟩,h5⟩,h6⟩,h4⟩
  refine ⟨⟨⟨⟨h1,h2,h3⟩,?_⟩,h5⟩,h6⟩
  rw [h4,hc _ (by omega)]
  congr 1
  omega
theorem qK9 {g:List (List Int)} {b:T_impl_Body} (h:stat g b=true):0≤b.Ins∧b.Ins < g.length:=by
 unfold stat at h
 simp only [Bool.and_eq_true,decide_eq_true_eq] at h
 omega
theorem goE_ok {g:List (List Int)}:∀ (l:List T_impl_Body) (i:Nat) (born:List Int) (c:Int→Int),born.length=g.length→(∀ v:Nat,v < g.length→born.getD v 0=c v) →
  (okF g c l∧∃ born',goE (bstep g) .inr l i born=.inr born'∧born'.length=g.length∧∀ v:Nat,v < g.length→born'.getD v 0=cnts c l v)∨(¬okF g c l∧goE (bstep g) .inr l i born=.inl false)
 | [],i,born,c,hl,hc=>.inl ⟨trivial,born,rfl,hl,hc⟩
 | b :: l,i,born,c,hl,hc=>by
  simp only [goE,bstep,okF,cnts]
  by_cases q:bodB g born b=true
  ·rw [if_pos q]
   obtain ⟨q1,q2⟩:=(bodB_iff hc b).1 q
   obtain ⟨i0,i1⟩:=qK9 q1
   have:=goE_ok l (i+1) (born.set b.Ins.toNat (born.getD b.Ins.toNat 0+1)) (inc c b.Ins) (by rw [List.length_set]; exact hl) (fun v hv=>by
    rw [qA5]
    unfold inc
    by_cases e:(v:Int)=b.Ins
    ·have e2:b.Ins.toNat=v:=by omega
     rw [if_pos ⟨e2,by omega⟩,if_pos e,e2,hc v hv]
    ·rw [if_neg (fun h=>e (by omega)),if_neg e,hc v hv])
   rcases this with ⟨h1,h2⟩ | ⟨h1,h2⟩
   ·exact .inl ⟨⟨q1,q2,h1⟩,h2⟩
   ·exact .inr ⟨fun h=>h1 h.2.2,h2⟩
  ·rw [if_neg q]
   exact .inr ⟨fun h=>q ((bodB_iff hc b).2 ⟨h.1,h.2.1⟩),rfl⟩
def c0:Int→Int:=fun _=>0
structure WR (w:T_impl_Weave):Prop where
 g:gOk w.Parents=true
 n:w.Bodies.length≤300
 o:okF w.Parents c0 w.Bodies
 b:∀ v:Nat,v < w.Parents.length→cnts c0 w.Bodies v≤80
 p:∀ v:Nat,v < w.Parents.length→(places (clo w.Parents v) w).length≤80
theorem wOk_iff {w:T_impl_Weave}:wOk w=true↔WR w:=by
 unfold wOk
 simp only [Bool.and_eq_true,decide_eq_true_eq]
 have hgo:=goE_ok (g:=w.Parents) w.Bodies 0 (List.replicate w.Parents.length 0) c0 (by simp) (fun v hv=>by
  rw [List.getD_eq_getElem?_getD,List.getElem?_replicate,if_pos hv]
  rfl)
 constructor
 ·rintro ⟨⟨h1,h2⟩,h3⟩
  rcases hgo with ⟨k1,born,k2,k3,k4⟩ | ⟨k1,k2⟩
  ·rw [show zT9 w=.inr born from k2] at h3
   have h3:finB w born=true:=h3
   unfold finB at h3
   rw [List.all_eq_true] at h3
   refine ⟨h1,h2,k1,fun v hv=>?_,fun v hv=>?_⟩
   ·have:=h3 v (List.mem_range.2 hv)
    simp only [Bool.and_eq_true,decide_eq_true_eq] at this
    rw [← k4 v hv]
    exact this.1
   ·have:=h3 v (List.mem_range.2 hv)
    simp only [Bool.and_eq_true,decide_eq_true_eq] at this
    exact this.2
  ·rw [show zT9 w=.inl false from k2] at h3
   cases h3
 ·intro h
  refine ⟨⟨h.g,h.n⟩,?_⟩
  rcases hgo with ⟨k1,born,k2,k3,k4⟩ | ⟨k1,k2⟩
  ·rw [show zT9 w=.inr born from k2]
   show finB w born=true
   unfold finB
   rw [List.all_eq_true]
   intro v hv
   have hv:=List.mem_range.1 hv
   simp only [Bool.and_eq_true,decide_eq_true_eq]
   rw [k4 v hv]
   exact ⟨h.b v hv,h.p v hv⟩
  ·exact absurd h.o k1
theorem qH8 {g:List (List Int)}:∀ {l:List T_impl_Body} {c:Int→Int},okF g c l→∀ b ∈ l,stat g b=true
 | [],_,_,_,h=>by cases h
 | b :: l,c,h,x,hx=>by
  rcases List.mem_cons.1 hx with rfl | hx
  ·exact h.1
  ·exact qH8 h.2.2 x hx
theorem rise_len:∀ {n:Nat} {l:List Int},rise l (n:Int)=true→l.length≤n:=by
 intro n l h
 -- the numbers ascend,so the i-th is at least i
 have key:∀ i,i < l.length→(i:Int)≤l.getD i 0:=by
  intro i
  induction i with
  | zero =>
   intro hi
   have:=List.all_eq_true.1 h 0 (List.mem_range.2 hi)
   unfold zJ8 at this
   simp only [Bool.and_eq_true,decide_eq_true_eq] at this
   omega
  | succ i ih =>
   intro hi
   have h1:=ih (by omega)
   have:=List.all_eq_true.1 h (i+1) (List.mem_range.2 hi)
   unfold zJ8 at this
   simp only [Bool.and_eq_true,Bool.or_eq_true,decide_eq_true_eq,beq_iff_eq,Nat.add_sub_cancel] at this
   rcases this.2 with q | q <;> omega
 rcases Nat.eq_zero_or_pos l.length with q | q
 ·omega
 ·have h1:=key (l.length - 1) (by omega)
  have:=List.all_eq_true.1 h (l.length - 1) (List.mem_range.2 (by omega))
  unfold zJ8 at this
  simp only [Bool.and_eq_true,decide_eq_true_eq] at this
  omega
theorem WR.sm {w:T_impl_Weave} (h:WR w):WSm w:=by
 have hg:=kV h.g
 have hn:=h.n
 refine ⟨by omega,⟨by omega,fun b hb=>?_⟩,fun b hb=>?_⟩
 ·have:=qH8 h.o b hb
  unfold stat at this
  simp only [Bool.and_eq_true] at this
  have:=rise_len this.1.2
  omega
 ·have:=qH8 h.o b hb
  unfold stat uQ at this
  simp only [Bool.and_eq_true,decide_eq_true_eq] at this
  omega
theorem WR.line {w:T_impl_Weave} (h:WR w) {b:T_impl_Body} (hb:b ∈ w.Bodies):uQ b.Line=true:=by
 have:=qH8 h.o b hb
 unfold stat at this
 simp only [Bool.and_eq_true] at this
 exact this.1.1.1
end Go.TV.F
namespace Go.TV.F
open Go.TV
end Go.TV.F
namespace Go.TV.F
open Go.TV
def lens (bh:List (List ByteArray)):Nat:=kQ List.length bh
def trueN (st:List Bool):Nat:=st.countP id
structure WvI (nb:Nat) (lines:List ByteArray) (k:Nat) (b:Nat×List (List ByteArray)×List Bool):Prop where
 at_:b.1≤nb
 bl:b.2.1.length=nb+1
 sl:b.2.2.length=nb
 cn:lens b.2.1+trueN b.2.2≤k
 mm:∀ h ∈ b.2.1,∀ x ∈ h,x ∈ lines
end Go.TV.F
namespace Go.TV.F
open Go.TV
end Go.TV.F
namespace Go.TV.F
open Go.TV
theorem l03All_eq {l:List ByteArray} {most:Int} (hx:∀ x ∈ l,x.size≤1000000000) (hll:l.length≤1000000000):zX8 l most=some (decide ((l.length:Int)≤most) && l.all uQ):=by
 unfold zX8
 by_cases q:(l.length:Int)≤most
 ·rw [ifF (decide_eq_false (by omega)),decide_eq_true q,Bool.true_and]
  have:=zZ0 (body:=fun s'=>zF5 l s') (good:=.inr ()) (bad:=.inl false) l uQ (fun i x hi hil=>by
   unfold zF5
   rw [ifT (by simpa using hil),zF,hi,Option.bind_some,lineS_eq (hx x (List.mem_of_getElem? hi)),Option.bind_some,wkS i (by omega)]
   cases uQ x <;> rfl) (by
   unfold zF5
   rw [ifF (by simp)])
  rw [this]
  cases l.all uQ <;> rfl
 ·rw [ifT (decide_eq_true (by omega)),decide_eq_false q]
  rfl
theorem linesOkS_eq {l:List ByteArray} (hx:∀ x ∈ l,x.size≤1000000000) (hll:l.length≤1000000000):zU0 l=some (decide (l.length≤80) && l.all uQ):=by
 unfold zU0
 rw [l03All_eq hx hll]
 have:decide ((l.length:Int)≤80)=decide (l.length≤80):=by
  rw [Bool.eq_iff_iff,decide_eq_true_eq,decide_eq_true_eq]
  omega
 rw [this]
 rfl
def w0:T_impl_Weave:=⟨[],[]⟩
theorem w0_ok:WR w0:=⟨rfl,by simp [w0],trivial,fun v hv=>by simp [w0] at hv,fun v hv=>by simp [w0] at hv⟩
end Go.TV.F
namespace Go.TV.F
open Go.TV
theorem linesOf_filter {w:T_impl_Weave} (p:T_impl_Body→Bool):qE0 w (idxs p w.Bodies 0)=(w.Bodies.filter p).map (·.Line):=by
 have key:∀ (l pre:List T_impl_Body),w.Bodies=pre++l→(idxs p l pre.length).map (fun i=>(w.Bodies[i]?.map (·.Line)).getD (ByteArray.mk #[]))=(l.filter p).map (·.Line):=by
  intro l
  induction l with
  | nil=>intro pre _; rfl
  | cons x l ih =>
   intro pre h
   have hx:w.Bodies[pre.length]? = some x:=by rw [h]; simp
   have:=ih (pre++[x]) (by simp [h])
   simp only [List.length_append,List.length_singleton] at this
   simp only [idxs,List.filter_cons]
   split
   ·rw [List.map_cons,List.map_cons,this,hx]
    rfl
   ·exact this
 exact key w.Bodies [] rfl
def txt (w:T_impl_Weave) (v:Nat):List ByteArray:=(w.Bodies.filter (zE8 (clo w.Parents v))).map (·.Line)
theorem txt_eq (w:T_impl_Weave) (v:Nat):qE0 w (places (clo w.Parents v) w)=txt w v:=linesOf_filter _
theorem txt_len {w:T_impl_Weave} (h:WR w) (v:Nat):(txt w v).length≤300:=by
 have:=List.length_filter_le (zE8 (clo w.Parents v)) w.Bodies
 have:=h.n
 unfold txt
 rw [List.length_map]
 omega
theorem clo_geti {w:T_impl_Weave} (h:WR w) {v:Int} (h0:0≤v) (h1:v < w.Parents.length):zI (us (jA w.Parents w.Parents.length)) v=some ((clo w.Parents v.toNat:Nat):Int):=by
 rw [us_get h0 (by rw [zV3]; exact h1)]
 rfl
theorem textS {w:T_impl_Weave} (h:WR w) {v:Int} (h0:0≤v) (h1:v < w.Parents.length):zO1 w v=some (txt w v.toNat):=by
 have hs:=h.sm
 have hn:=h.n
 unfold zO1
 have e1:yN (T_impl_Weave.mk w.Parents w.Bodies) v=some (setL w.Parents [v]):=closureS (w:=w) h.g v
 have e2:uE (T_impl_Weave.mk w.Parents w.Bodies) (setL w.Parents [v])=some (zA6 (places (clo w.Parents v.toNat) w)):=qN2 (w:=w) (agree_one h.g h0 h1) hs.d
 have hpl:=places_len (clo w.Parents v.toNat) w
 have e3:zI8 (T_impl_Weave.mk w.Parents w.Bodies) (zA6 (places (clo w.Parents v.toNat) w))=some (txt w v.toNat):=by
  rw [← txt_eq]
  exact (linesAt_eq (w:=w) (places_lt _ w) (by omega)).2
 simp only [e1,e2,e3,Option.bind_some]
structure BIn (n:Nat) (b:T_impl_Body):Prop where
 i0:0≤b.Ins
 i1:b.Ins < n
 d:∀ x ∈ b.Dels,0≤x∧x < n
end Go.TV.F
namespace Go.TV.F
open Go.TV
structure StSm (s:T_impl_Store):Prop where
 c:s.Commits.length≤2000000
 f:s.Files.length≤2000000
 cs:∀ x ∈ s.Commits,smC x
 fs:∀ w ∈ s.Files,WSm w
theorem weaveExtract {w:T_impl_Weave} (h:WR w) {v:Int} (h0:0≤v) (h1:v < w.Parents.length):uF w v=some (txt w v.toNat):=by
 have hs:=h.sm
 have hc:=clo_lt h.g v.toNat
 unfold uF
 rw [closures_eq h.g,Option.bind_some,clo_geti h h0 h1,Option.bind_some,show T_impl_Weave.mk w.Parents w.Bodies=w from rfl,liveIn_eq hc hs.d,Option.bind_some,(linesAt_eq (places_lt _ w) (by have:=places_len (clo w.Parents v.toNat) w; have:=h.n; omega)).1,txt_eq]
 rfl
def whole (w:T_impl_Weave):Nat:=kQ (fun v=>(txt w v).length) (List.range w.Parents.length)
end Go.TV.F
namespace Go.TV.F
open Go.TV
end Go.TV.F
namespace Go.TV.F
open Go.TV
def nmEq (x y:T_impl_Name):Bool:=(x.Path.toList == y.Path.toList) && ((x.Id == y.Id) && (x.Version == y.Version))
def unlikeB (a b:List T_impl_Name) (id:Int):Bool:=
 if (decide (idN a id < 0) || decide (idN b id < 0))=true then (decide (idN a id≥0) || decide (idN b id≥0)) else !(nmEq (a.getD (idN a id).toNat bN) (b.getD (idN b id).toNat bN))
def bC:T_impl_Commit:=⟨[],ByteArray.mk #[],[]⟩
def tB (l:List T_impl_Commit) (c:T_impl_Commit) (id:Nat):Bool:=
 (((c.Parents.length:Int) == 0) && decide (idN c.Names id≥0)) || c.Parents.any fun p=>unlikeB c.Names (l.getD p.toNat bC).Names id
structure CsR (l:List T_impl_Commit):Prop where
 n:∀ c ∈ l,c.Names.length≤12
 p:∀ (k:Nat) (h:k < l.length),∀ x ∈ l[k].Parents,0≤x∧x.toNat < l.length
 q:∀ (k:Nat) (h:k < l.length),l[k].Parents.length≤4
theorem contains_eq {l:List Int} {v:Int} (hl:l.length≤1000000000):kL l v=some (l.contains v):=by
 unfold kL kP
 rw [fidx_loop l (fun x=>v == x) (fun k x hx hk=>by
  unfold jW
  rw [ifT (by simpa using hk),zF,hx]
  simp only [Option.bind_some,wkS k (by omega)]
  split <;> rfl) (by
  unfold jW
  rw [ifF (by simp)])]
 have h1:=qJ5 (fun x=>v == x) l
 have h2:=qH7 (fun x=>v == x) l
 by_cases q:xW (fun x=>v == x) l = -1
 ·rw [if_pos q]
  have hc:l.contains v=false:=by
   rw [List.contains_eq_any_beq,List.any_eq_false]
   intro x hx
   have:=h1.1 q x hx
   simpa using this
  rw [hc]
  rfl
 ·rw [if_neg q]
  have hc:l.contains v=true:=by
   cases e:l.contains v with
   | true=>rfl
   | false =>
    rw [List.contains_eq_any_beq,List.any_eq_false] at e
    exact absurd (h1.2 fun x hx=>by simpa using e x hx) q
  rw [hc]
  simp only [Option.bind_some]
  congr 1
  exact decide_eq_true (by omega)
end Go.TV.F
namespace Go.TV.F
open Go.TV
theorem copyWeave_eq {w:T_impl_Weave} (hp:w.Parents.length≤2000000) (hb:w.Bodies.length≤2000000) (hpp:∀ p ∈ w.Parents,p.length≤2000000) (hd:∀ b ∈ w.Bodies,b.Dels.length≤1000000000):zX1 w=some w:=by
 unfold zX1
 rw [qL8 (body:=fun (s':Int×(List (List Int)))=>zE6 w s'.1 s'.2) w.Parents (fun x=>x) id (by omega) (fun k x out hx hk ho=>by
  have:=hpp x (List.mem_of_getElem? hx)
  simp only [zE6]
  rw [ifT (by simpa using hk),zF,hx,Option.bind_some,zK (by simp; omega),Option.bind_some,zK (by simp; omega),Option.bind_some,wkS k (by omega)]
  rfl) (fun out=>by
  simp only [zE6]
  rw [ifF (by simp)]
  rfl),Option.bind_some]
 unfold qD0
 rw [qL8 (body:=fun (s':Int×(List T_impl_Body))=>zE7 w s'.1 s'.2) w.Bodies (fun x=>x) id (by omega) (fun k x out hx hk ho=>by
  have:=hd x (List.mem_of_getElem? hx)
  simp only [zE7]
  rw [ifT (by simpa using hk),zF,hx,Option.bind_some,zK (by simp; omega),Option.bind_some,zK (by simp; omega),Option.bind_some,wkS k (by omega)]
  rfl) (fun out=>by
  simp only [zE7]
  rw [ifF (by simp)]
  rfl),Option.bind_some]
 simp [qB7]
theorem WR.copy {w:T_impl_Weave} (h:WR w):zX1 w=some w:=by
 have h1:=kV h.g
 have h2:=h.n
 refine copyWeave_eq (by omega) (by omega) (fun p hp=>?_) (fun b hb=>?_)
 ·obtain ⟨k,hk,rfl⟩:=List.getElem_of_mem hp
  have:=(zX6 h.g hk).1
  omega
 ·exact h.sm.d.2 b hb
theorem fold_loop {α σ ρ:Type} {body:Int×σ→Option ((Int×σ)⊕ρ)} (l:List α) (f:σ→α→σ) (I:Nat→σ→Prop) (fin:σ→ρ) (s0:σ) (h0:I 0 s0)
  (hs:∀ (k:Nat) (x:α) (s:σ),l[k]? = some x→k < l.length→I k s→body ((k:Int),s)=some (.inl (((k+1:Nat):Int),f s x))∧I (k+1) (f s x))
  (he:∀ s,body ((l.length:Int),s)=some (.inr (fin s))):zC body (0,s0)=some (fin (l.foldl f s0)):=by
 have key:∀ (m pre:List α) (s:σ),l=pre++m→I pre.length s→zC body ((pre.length:Int),s)=some (fin (m.foldl f s)):=by
  intro m
  induction m with
  | nil =>
   intro pre s hl _
   rw [List.append_nil] at hl
   subst hl
   rw [zJ,he]
   rfl
  | cons x m ih =>
   intro pre s hl hI
   obtain ⟨h1,h2⟩:=hs pre.length x s (by rw [hl]; simp) (by rw [hl]; simp) hI
   rw [zJ,h1]
   have:=ih (pre++[x]) (f s x) (by rw [hl]; simp) (by simpa using h2)
   rw [List.length_append] at this
   exact this
 exact key l [] s0 rfl h0
def withN (l:List Int) (x:Int):List Int:=(l.filter fun y=>decide (y < x))++[x]++l.filter fun y=>decide (y > x)
theorem filt_from {body:Int×List Int→Option ((Int×List Int)⊕List Int)} (l:List Int) (p:Int→Bool) (o0:List Int)
  (hs:∀ (k:Nat) (x:Int) (out:List Int),l[k]? = some x→k < l.length→out.length≤o0.length+k→body ((k:Int),out)=some (.inl (((k+1:Nat):Int),if p x=true then out++[x] else out)))
  (he:∀ out,body ((l.length:Int),out)=some (.inr out)):zC body (0,o0)=some (o0++l.filter p):=by
 rw [fold_loop l (fun out x=>if p x=true then out++[x] else out) (fun k out=>out.length≤o0.length+k) (fun o=>o) o0 (by omega) (fun k x out hx hk ho=>⟨hs k x out hx hk ho,by split <;> (try rw [List.length_append,List.length_singleton]) <;> omega⟩) he]
 congr 1
 clear hs he
 induction l generalizing o0 with
 | nil=>simp
 | cons x l ih =>
  rw [List.foldl_cons,ih]
  cases q:p x <;> simp [q]
theorem with_eq {l:List Int} (hl:l.length≤1000000) (x:Int):zT6 l x=some (withN l x):=by
 unfold zT6
 rw [filt_from (body:=fun (s':Int×(List Int))=>zD1 l x s'.1 s'.2) l (fun y=>decide (y < x)) [] (fun k y out hy hk ho=>by
  simp only [zD1]
  rw [ifT (by simpa using hk),zF,hy,Option.bind_some,zK (by simp at ho ⊢; omega),wkS k (by omega)]
  split <;> rfl) (fun out=>by
  simp only [zD1]
  rw [ifF (by simp)]),Option.bind_some]
 have h1:=List.length_filter_le (fun y=>decide (y < x)) l
 unfold zT0
 rw [List.nil_append,zK (by simp; omega),Option.bind_some]
 rw [filt_from (body:=fun (s':Int×(List Int))=>zC4 l x s'.1 s'.2) l (fun y=>decide (y > x)) _ (fun k y out hy hk ho=>by
  simp only [List.length_append,List.length_cons,List.length_nil] at ho
  simp only [zC4]
  rw [ifT (by simpa using hk),zF,hy,Option.bind_some,zK (by simp; omega),wkS k (by omega)]
  split <;> rfl) (fun out=>by
  simp only [zC4]
  rw [ifF (by simp)]),Option.bind_some]
 rfl
end Go.TV.F
namespace Go.TV.F
open Go.TV
def jT {σ α:Type} (f:σ→α→Option σ):List α→σ→Option σ
 | [],s=>some s
 | x :: l,s=>(f s x).bind (jT f l)
theorem zZ3 {σ α:Type} (f:σ→α→Option σ):∀ (l m:List α) (s:σ),jT f (l++m) s=(jT f l s).bind (jT f m)
 | [],_,_=>rfl
 | x :: l,m,s=>by
  rw [List.cons_append]
  unfold jT
  cases f s x with
  | none=>rfl
  | some s'=>exact zZ3 f l m s'
theorem zC2 {σ α:Type} {f:σ→α→Option σ} {x:α} {l:List α} {s s':σ} (h:f s x=some s'):jT f (x :: l) s=jT f l s':=by
 simp only [jT,h,Option.bind_some]
def fromR {σ R:Type} (fin:σ→R) (bad:R):Option σ→R
 | some s=>fin s
 | none=>bad
theorem run_loop {σ α S R:Type} {body:S→Option (S⊕R)} (mk:Nat→σ→S) (l:List α) (f:σ→α→Option σ) (I:Nat→σ→Prop) (bad:R) (fin:σ→R) (s0:σ) (h0:I 0 s0)
  (hs:∀ (k:Nat) (x:α) (s:σ),l[k]? = some x→k < l.length→I k s→(∃ s',f s x=some s'∧body (mk k s)=some (.inl (mk (k+1) s'))∧I (k+1) s')∨(f s x=none∧body (mk k s)=some (.inr bad)))
  (he:∀ s,I l.length s→body (mk l.length s)=some (.inr (fin s))) :
  zC body (mk 0 s0)=some (fromR fin bad (jT f l s0))∧∀ s,jT f l s0=some s→I l.length s:=by
 have key:∀ (m pre:List α) (s:σ),l=pre++m→I pre.length s→zC body (mk pre.length s)=some (fromR fin bad (jT f m s))∧∀ s',jT f m s=some s'→I l.length s':=by
  intro m
  induction m with
  | nil =>
   intro pre s hl hI
   have hp:pre.length=l.length:=by rw [hl,List.append_nil]
   rw [hp] at hI ⊢
   rw [zJ,he s hI]
   exact ⟨rfl,fun s' q=>by injection q with q; subst q; exact hI⟩
  | cons x m ih =>
   intro pre s hl hI
   have hx:l[pre.length]? = some x:=by rw [hl]; simp
   have hk:pre.length < l.length:=by rw [hl]; simp
   rw [zJ]
   rcases hs pre.length x s hx hk hI with ⟨s',h1,h2,h3⟩ | ⟨h1,h2⟩
   ·rw [h2]
    have:=ih (pre++[x]) s' (by rw [hl]; simp) (by rw [List.length_append]; exact h3)
    rw [List.length_append] at this
    rw [zC2 h1]
    exact this
   ·rw [h2]
    have:jT f (x :: m) s=none:=by simp only [jT,h1,Option.bind_none]
    rw [this]
    exact ⟨rfl,fun s' q=>by cases q⟩
 exact key l [] s0 rfl h0
theorem qM3:∀ {l m:List Int},l.Pairwise (· < ·)→m.Pairwise (· < ·)→(∀ x,x ∈ l↔x ∈ m)→l=m
 | [],[],_,_,_=>rfl
 | [],y :: m,_,_,h=>by have:=(h y).2 (by simp); cases this
 | x :: l,[],_,_,h=>by have:=(h x).1 (by simp); cases this
 | x :: l,y :: m,h1,h2,h=>by
  have h1':=List.pairwise_cons.1 h1
  have h2':=List.pairwise_cons.1 h2
  have hxy:x=y:=by
   rcases List.mem_cons.1 ((h x).1 (by simp)) with e | e
   ·exact e
   ·rcases List.mem_cons.1 ((h y).2 (by simp)) with e2 | e2
    ·exact e2.symm
    ·have a:=h2'.1 x e
     have b:=h1'.1 y e2
     omega
  subst hxy
  congr 1
  refine qM3 h1'.2 h2'.2 (fun z=>⟨fun q=>?_,fun q=>?_⟩)
  ·rcases List.mem_cons.1 ((h z).1 (by simp [q])) with e | e
   ·have:=h1'.1 z q
    omega
   ·exact e
  ·rcases List.mem_cons.1 ((h z).2 (by simp [q])) with e | e
   ·have:=h2'.1 z q
    omega
   ·exact e
theorem pw_nodup {l:List Int} (h:l.Pairwise (· < ·)):l.Nodup:=h.imp (fun h=>by omega)
theorem pw_len {n:Int}:∀ (l:List Int) (a:Int),a≤n→l.Pairwise (· < ·)→(∀ x ∈ l,a≤x∧x < n)→(l.length:Int)≤n - a
 | [],a,h,_,_=>by simp; omega
 | x :: l,a,h,h1,h2=>by
  have h1':=List.pairwise_cons.1 h1
  have hx:=h2 x (by simp)
  have:=pw_len l (x+1) (by omega) h1'.2 (fun y hy=>⟨by have:=h1'.1 y hy; omega,(h2 y (by simp [hy])).2⟩)
  rw [List.length_cons]
  omega
theorem rise_pw {l:List Int} {n:Int} (h:rise l n=true):l.Pairwise (· < ·):=by
 have hc:∀ i,i+1 < l.length→l.getD i 0 < l.getD (i+1) 0:=fun i hi=>by
  have:=List.all_eq_true.1 h (i+1) (List.mem_range.2 hi)
  unfold zJ8 at this
  simp only [Bool.and_eq_true,Bool.or_eq_true,decide_eq_true_eq,Nat.add_sub_cancel] at this
  rcases this.2 with q | q
  ·simp at q
  ·exact q
 have key:∀ d i,i+d+1 < l.length→l.getD i 0 < l.getD (i+d+1) 0:=by
  intro d
  induction d with
  | zero=>intro i hi; exact hc i hi
  | succ d ih =>
   intro i hi
   have a:=ih i (by omega)
   have b:=hc (i+d+1) (by omega)
   rw [show i+(d+1)+1=i+d+1+1 by omega]
   omega
 rw [List.pairwise_iff_getElem]
 intro i j hi hj hij
 have:=key (j - i - 1) i (by omega)
 rw [show i+(j - i - 1)+1=j by omega,List.getD_eq_getElem?_getD,List.getD_eq_getElem?_getD,List.getElem?_eq_getElem hi,List.getElem?_eq_getElem hj] at this
 exact this
def sortI (l:List Int):List Int:=l.mergeSort fun x y=>decide (x≤y)
theorem sortI_eq {l e:List Int} (hl:l.Nodup) (he:e.Pairwise (· < ·)) (h:∀ x,x ∈ l↔x ∈ e):sortI l=e:=by
 have hp:(sortI l).Perm l:=List.mergeSort_perm _ _
 have hs:(sortI l).Pairwise (fun x y=>decide (x≤y)=true):=List.pairwise_mergeSort (fun a b c h1 h2=>by simp at h1 h2 ⊢; omega) (fun a b=>by simp; omega) l
 have hn:(sortI l).Nodup:=hp.nodup_iff.2 hl
 refine qM3 ?_ he (fun x=>(hp.mem_iff).trans (h x))
 have:=hs.and hn
 exact this.imp (fun h=>by have h1:=of_decide_eq_true h.1; have h2:=h.2; omega)
abbrev eB:ByteArray:=ByteArray.mk #[]
def mDE (d e:List Int):List T_impl_Rec:=(d.reverse.filter fun x=>!e.contains x).map fun x=>⟨5,x,eB⟩
def mD (d e:List Int):List T_impl_Rec:=(e.filter fun x=>!d.contains x).map fun x=>⟨4,x,eB⟩
def mIE (i j:Int):List T_impl_Rec:=if (i != j && decide (i≥0))=true then [⟨3,i,eB⟩] else []
def mI (i j:Int):List T_impl_Rec:=if (i != j && decide (j≥0))=true then [⟨2,j,eB⟩] else []
def mk4 (i:Int) (d:List Int) (j:Int) (e:List Int):List T_impl_Rec:=mDE d e++mIE i j++mI i j++mD d e
def goR:Int→List Int→List T_impl_Body→List T_impl_Rec
 | i,d,[]=>mk4 i d (-1) []
 | i,d,b :: bs=>mk4 i d b.Ins b.Dels++⟨1,0,b.Line⟩ :: goR b.Ins b.Dels bs
def zE9 (o:T_impl_walker) (r:T_impl_Rec):Option T_impl_walker:=
 if (r.Kind == 2)=true then (if o.open_=true then none else some ⟨true,r.Version,o.dels⟩)
 else if (r.Kind == 3)=true then (if (!o.open_ || o.ins != r.Version)=true then none else some ⟨false,o.ins,o.dels⟩)
 else if (r.Kind == 4)=true then (if o.dels.contains r.Version=true then none else some ⟨o.open_,o.ins,o.dels++[r.Version]⟩)
 else if (r.Kind == 5)=true then (if o.dels.contains r.Version=true then some ⟨o.open_,o.ins,o.dels.erase r.Version⟩ else none)
 else if (r.Kind == 1)=true then (if o.open_=true then some o else none)
 else none
structure Ws (o:T_impl_walker) (i:Int) (d:List Int):Prop where
 op:o.open_=decide (i≥0)
 ins:0≤i→o.ins=i
 nd:o.dels.Nodup
 mem:∀ x,x ∈ o.dels↔x ∈ d
theorem run_DE:∀ (l:List Int) (o:T_impl_walker),o.dels.Nodup→l.Nodup→(∀ x ∈ l,x ∈ o.dels) →
  ∃ o',jT zE9 (l.map fun x=>⟨5,x,eB⟩) o=some o'∧o'.open_=o.open_∧o'.ins=o.ins∧o'.dels.Nodup∧∀ x,x ∈ o'.dels↔x ∈ o.dels∧x ∉ l
 | [],o,h,_,_=>⟨o,rfl,rfl,rfl,h,fun x=>by simp⟩
 | y :: l,o,h,h1,h2=>by
  have hn:=List.nodup_cons.1 h1
  have hy:o.dels.contains y=true:=by simpa using h2 y (by simp)
  have hm:∀ x,x ∈ o.dels.erase y↔x≠y∧x ∈ o.dels:=fun x=>h.mem_erase_iff
  obtain ⟨o',g1,g2,g3,g4,g5⟩:=run_DE l ⟨o.open_,o.ins,o.dels.erase y⟩ (h.erase y) hn.2 (fun x hx=>(hm x).2 ⟨fun e=>hn.1 (e ▸ hx),h2 x (by simp [hx])⟩)
  refine ⟨o',?_,g2,g3,g4,fun x=>?_⟩
  ·rw [List.map_cons,zC2 (s':=⟨o.open_,o.ins,o.dels.erase y⟩) (by simp [zE9,h2 y (by simp)])]
   exact g1
  ·rw [g5 x]
   show x ∈ o.dels.erase y∧_↔_
   rw [hm x,List.mem_cons]
   constructor
   ·rintro ⟨⟨a,b⟩,c⟩
    exact ⟨b,fun q=>q.elim a c⟩
   ·rintro ⟨a,b⟩
    exact ⟨⟨fun q=>b (.inl q),a⟩,fun q=>b (.inr q)⟩
theorem run_D:∀ (l:List Int) (o:T_impl_walker),o.dels.Nodup→l.Nodup→(∀ x ∈ l,x ∉ o.dels) →
  ∃ o',jT zE9 (l.map fun x=>⟨4,x,eB⟩) o=some o'∧o'.open_=o.open_∧o'.ins=o.ins∧o'.dels.Nodup∧∀ x,x ∈ o'.dels↔x ∈ o.dels∨x ∈ l
 | [],o,h,_,_=>⟨o,rfl,rfl,rfl,h,fun x=>by simp⟩
 | y :: l,o,h,h1,h2=>by
  have hn:=List.nodup_cons.1 h1
  have hy:o.dels.contains y=false:=by simpa using h2 y (by simp)
  have hnd:(o.dels++[y]).Nodup:=by
   rw [List.nodup_append]
   refine ⟨h,by simp,fun a ha b hb=>?_⟩
   simp only [List.mem_singleton] at hb
   subst hb
   rintro rfl
   exact h2 a (by simp) ha
  obtain ⟨o',g1,g2,g3,g4,g5⟩:=run_D l ⟨o.open_,o.ins,o.dels++[y]⟩ hnd hn.2 (fun x hx=>by
   show x ∉ o.dels++[y]
   simp only [List.mem_append,List.mem_singleton,not_or]
   exact ⟨h2 x (by simp [hx]),fun e=>hn.1 (e ▸ hx)⟩)
  refine ⟨o',?_,g2,g3,g4,fun x=>?_⟩
  ·rw [List.map_cons,zC2 (s':=⟨o.open_,o.ins,o.dels++[y]⟩) (by simp [zE9,h2 y (by simp)])]
   exact g1
  ·rw [g5 x]
   show x ∈ o.dels++[y]∨_↔_
   simp only [List.mem_append,List.mem_singleton,List.mem_cons,or_assoc,List.not_mem_nil,false_or]
theorem mk4_run {o:T_impl_walker} {i j:Int} {d e:List Int} (h:Ws o i d) (hd:d.Nodup) (he:e.Nodup):∃ o',jT zE9 (mk4 i d j e) o=some o'∧Ws o' j e:=by
 obtain ⟨o1,a1,a2,a3,a4,a5⟩:=run_DE (d.reverse.filter fun x=>!e.contains x) o h.nd (((List.reverse_perm d).nodup_iff.2 hd).filter _) (fun x hx=>by
  rw [List.mem_filter] at hx
  exact (h.mem x).2 (by simpa using hx.1))
 have b:∃ o2,jT zE9 (mIE i j++mI i j) o1=some o2∧o2.open_=decide (j≥0)∧(0≤j→o2.ins=j)∧o2.dels=o1.dels:=by
  unfold mIE mI
  have hop:o1.open_=decide (i≥0):=a2.trans h.op
  by_cases hij:i=j
  ·subst hij
   refine ⟨o1,by simp [jT],hop,fun q=>by rw [a3]; exact h.ins q,rfl⟩
  ·have hne:(i != j)=true:=by simpa using hij
   rw [hne,Bool.true_and,Bool.true_and]
   by_cases hi:0≤i <;> by_cases hj:0≤j
   ·have e1:decide (i≥0)=true:=by simpa using hi
    have e2:decide (j≥0)=true:=by simpa using hj
    have hins:o1.ins=i:=by rw [a3]; exact h.ins hi
    rw [e1] at hop
    rw [if_pos e1,if_pos e2,e2]
    refine ⟨⟨true,j,o1.dels⟩,?_,rfl,fun _=>rfl,rfl⟩
    simp [jT,zE9,hop,hins]
   ·have e1:decide (i≥0)=true:=by simpa using hi
    have e2:decide (j≥0)=false:=by simpa using hj
    have hins:o1.ins=i:=by rw [a3]; exact h.ins hi
    rw [e1] at hop
    rw [if_pos e1,if_neg (by simp [e2]),e2]
    refine ⟨⟨false,o1.ins,o1.dels⟩,?_,rfl,fun q=>absurd q hj,rfl⟩
    simp [jT,zE9,hop,hins]
   ·have e1:decide (i≥0)=false:=by simpa using hi
    have e2:decide (j≥0)=true:=by simpa using hj
    rw [e1] at hop
    rw [if_neg (by simp [e1]),if_pos e2,e2]
    refine ⟨⟨true,j,o1.dels⟩,?_,rfl,fun _=>rfl,rfl⟩
    simp [jT,zE9,hop]
   ·have e1:decide (i≥0)=false:=by simpa using hi
    have e2:decide (j≥0)=false:=by simpa using hj
    rw [e1] at hop
    rw [if_neg (by simp [e1]),if_neg (by simp [e2]),e2]
    exact ⟨o1,rfl,hop,fun q=>absurd q hj,rfl⟩
 obtain ⟨o2,b1,b2,b3,b4⟩:=b
 have hm1:∀ x,x ∈ o1.dels↔x ∈ d∧x ∈ e:=fun x=>by
  rw [a5,h.mem,List.mem_filter]
  simp only [List.mem_reverse,Bool.not_eq_true',not_and,Bool.not_eq_false]
  constructor
  ·rintro ⟨p,q⟩
   exact ⟨p,by simpa using q p⟩
  ·rintro ⟨p,q⟩
   exact ⟨p,fun _=>by simpa using q⟩
 obtain ⟨o3,c1,c2,c3,c4,c5⟩:=run_D (e.filter fun x=>!d.contains x) o2 (by rw [b4]; exact a4) (he.filter _) (fun x hx q=>by
  rw [b4,hm1] at q
  rw [List.mem_filter] at hx
  have:=hx.2
  simp at this
  exact this q.1)
 refine ⟨o3,?_,c2.trans b2,fun q=>by rw [c3]; exact b3 q,c4,fun x=>?_⟩
 ·unfold mk4 mDE mD
  rw [List.append_assoc,List.append_assoc,zZ3,a1,Option.bind_some,← List.append_assoc,zZ3,b1,Option.bind_some]
  exact c1
 ·rw [c5,b4,hm1,List.mem_filter]
  constructor
  ·rintro (q | q)
   ·exact q.2
   ·exact q.1
  ·intro q
   by_cases hx:x ∈ d
   ·exact .inl ⟨hx,q⟩
   ·exact .inr ⟨q,by simpa using hx⟩
theorem mk4_kind {i j:Int} {d e:List Int}:∀ r ∈ mk4 i d j e,(r.Kind == 1)=false:=fun r hr=>by
 unfold mk4 mDE mIE mI mD at hr
 simp only [List.mem_append,List.mem_map] at hr
 rcases hr with ((⟨x,_,rfl⟩ | hr) | hr) | ⟨x,_,rfl⟩
 ·rfl
 ·split at hr
  ·obtain rfl:=List.mem_singleton.1 hr
   rfl
  ·cases hr
 ·split at hr
  ·obtain rfl:=List.mem_singleton.1 hr
   rfl
  ·cases hr
 ·rfl
structure Fst where
 o:T_impl_walker
 born:List Int
 bs:List T_impl_Body
def jQ (n:Nat) (s:Fst) (r:T_impl_Rec):Option Fst:=
 (zE9 s.o r).bind fun o=>if (r.Kind == 1)=true then
  (if (decide (0≤o.ins) && decide (o.ins < (n:Int)))=true then some ⟨o,s.born.set o.ins.toNat (s.born.getD o.ins.toNat 0+1),s.bs++[⟨r.Line,o.ins,s.born.getD o.ins.toNat 0,sortI o.dels⟩]⟩ else none)
  else some ⟨o,s.born,s.bs⟩
theorem qL9 {n:Nat}:∀ (l:List T_impl_Rec) (s:Fst),(∀ r ∈ l,(r.Kind == 1)=false)→jT (jQ n) l s=(jT zE9 l s.o).map fun o=>⟨o,s.born,s.bs⟩
 | [],s,_=>rfl
 | r :: l,s,h=>by
  have hr:=h r (by simp)
  unfold jT
  cases q:zE9 s.o r with
  | none=>simp only [jQ,q,Option.bind_none,Option.map_none]
  | some o =>
   have:jQ n s r=some ⟨o,s.born,s.bs⟩:=by simp only [jQ,q,Option.bind_some,hr,Bool.false_eq_true,if_false]
   rw [this,Option.bind_some,Option.bind_some,qL9 l _ (fun x hx=>h x (by simp [hx]))]
theorem goR_run {g:List (List Int)}:∀ (bs:List T_impl_Body) (c:Int→Int) (i:Int) (d:List Int) (o:T_impl_walker) (born:List Int) (acc:List T_impl_Body),okF g c bs→Ws o i d→d.Nodup→born.length=g.length→(∀ v:Nat,v < g.length→born.getD v 0=c v) →
  ∃ s,jT (jQ g.length) (goR i d bs) ⟨o,born,acc⟩=some s∧s.bs=acc++bs∧Ws s.o (-1) []
 | [],c,i,d,o,born,acc,_,h,hd,_,_=>by
  obtain ⟨o',h1,h2⟩:=mk4_run (j:=-1) (e:=[]) h hd List.nodup_nil
  refine ⟨⟨o',born,acc⟩,?_,by simp,h2⟩
  unfold goR
  rw [qL9 _ _ mk4_kind,h1]
  rfl
 | b :: bs,c,i,d,o,born,acc,hk,h,hd,hl,hc=>by
  obtain ⟨k1,k2,k3⟩:=hk
  obtain ⟨i0,i1⟩:=qK9 k1
  have hrise:rise b.Dels g.length=true:=by
   unfold stat at k1
   simp only [Bool.and_eq_true] at k1
   exact k1.1.2
  have hpw:=rise_pw hrise
  obtain ⟨o',h1,h2⟩:=mk4_run (j:=b.Ins) (e:=b.Dels) h hd (pw_nodup hpw)
  have hop:o'.open_=true:=by rw [h2.op]; simpa using i0
  have hin:o'.ins=b.Ins:=h2.ins i0
  have hb:born.getD b.Ins.toNat 0=b.Ord:=by
   rw [hc b.Ins.toNat (by omega),k2]
   congr 1
   omega
  obtain ⟨s,g1,g2,g3⟩:=goR_run bs (inc c b.Ins) b.Ins b.Dels o' (born.set b.Ins.toNat (born.getD b.Ins.toNat 0+1)) (acc++[b]) k3 h2 (pw_nodup hpw) (by rw [List.length_set]; exact hl) (fun v hv=>by
   rw [qA5]
   unfold inc
   by_cases e:(v:Int)=b.Ins
   ·have e2:b.Ins.toNat=v:=by omega
    rw [if_pos ⟨e2,by omega⟩,if_pos e,e2,hc v hv]
   ·rw [if_neg (fun h=>e (by omega)),if_neg e,hc v hv])
  refine ⟨s,?_,by rw [g2,List.append_assoc]; rfl,g3⟩
  unfold goR
  rw [zZ3,qL9 _ _ mk4_kind,h1,Option.map_some,Option.bind_some]
  rw [zC2 (s':=⟨o',born.set b.Ins.toNat (born.getD b.Ins.toNat 0+1),acc++[b]⟩)]
  ·exact g1
  ·have hmk:zE9 o' ⟨1,0,b.Line⟩=some o':=by simp [zE9,hop]
   simp only [jQ,hmk,Option.bind_some,beq_self_eq_true,if_true,hin,hb]
   rw [if_pos (by simp; omega),sortI_eq h2.nd hpw h2.mem]
structure Gst where
 i:Int
 d:List Int
 born:List Int
 bs:List T_impl_Body
def zB8 (n:Nat) (s:Gst) (r:T_impl_Rec):Option Gst:=
 if (r.Kind == 2)=true then some ⟨r.Version,s.d,s.born,s.bs⟩
 else if (r.Kind == 3)=true then some ⟨-1,s.d,s.born,s.bs⟩
 else if (r.Kind == 4)=true then some ⟨s.i,withN s.d r.Version,s.born,s.bs⟩
 else if (r.Kind == 5)=true then some ⟨s.i,s.d.filter (fun y=>y != r.Version),s.born,s.bs⟩
 else if (r.Kind == 1)=true then
  (if (decide (0≤s.i) && decide (s.i≤(n:Int) - 1))=true then some ⟨s.i,s.d,s.born.set s.i.toNat (s.born.getD s.i.toNat 0+1),s.bs++[⟨r.Line,s.i,s.born.getD s.i.toNat 0,s.d⟩]⟩ else none)
 else some s
def zC5 (n:Nat) (s:Gst) (r:T_impl_Rec):Option Gst:=
 (zB8 n s r).bind fun s=>if (decide (s.d.length > 40) || decide (s.bs.length > 300))=true then none else some s
theorem withN_mem {l:List Int} {x y:Int}:y ∈ withN l x↔y ∈ l∨y=x:=by
 unfold withN
 simp only [List.mem_append,List.mem_filter,List.mem_singleton,decide_eq_true_eq]
 constructor
 ·rintro ((⟨h,_⟩ | h) | ⟨h,_⟩)
  ·exact .inl h
  ·exact .inr h
  ·exact .inl h
 ·rintro (h | h)
  ·rcases Int.lt_trichotomy y x with q | q | q
   ·exact .inl (.inl ⟨h,q⟩)
   ·exact .inl (.inr q)
   ·exact .inr ⟨h,q⟩
  ·exact .inl (.inr h)
theorem withN_pw {l:List Int} {x:Int} (h:l.Pairwise (· < ·)):(withN l x).Pairwise (· < ·):=by
 unfold withN
 rw [List.append_assoc,List.pairwise_append]
 refine ⟨h.filter _,?_,fun a ha b hb=>?_⟩
 ·rw [List.singleton_append,List.pairwise_cons]
  refine ⟨fun a ha=>?_,h.filter _⟩
  rw [List.mem_filter] at ha
  simpa using ha.2
 ·rw [List.mem_filter] at ha
  have ha:=of_decide_eq_true ha.2
  simp only [List.mem_append,List.mem_singleton,List.mem_filter] at hb
  rcases hb with rfl | ⟨_,hb⟩
  ·exact ha
  ·have:=of_decide_eq_true hb
   omega
def Gok (n:Nat) (s:Gst):Prop:=s.d.Pairwise (· < ·)∧(∀ x ∈ s.d,0≤x∧x < (n:Int))∧s.bs.length≤300
theorem Gok.small {n:Nat} {s:Gst} (h:Gok n s) (hn:n≤40):(decide (s.d.length > 40) || decide (s.bs.length > 300))=false:=by
 have:=pw_len s.d 0 (by omega) h.1 h.2.1
 have h3:=h.2.2
 simp
 omega
theorem zY9 {n:Nat} {s s':Gst} {r:T_impl_Rec} (h0:zB8 n s r=some s') (h:Gok n s') (hn:n≤40):zC5 n s r=some s':=by
 unfold zC5
 rw [h0,Option.bind_some,h.small hn]
 rfl
theorem runS_DE {n:Nat} (hn:n≤40):∀ (l:List Int) (s:Gst),Gok n s→∃ d',jT (zC5 n) (l.map fun x=>⟨5,x,eB⟩) s=some ⟨s.i,d',s.born,s.bs⟩∧Gok n ⟨s.i,d',s.born,s.bs⟩∧∀ x,x ∈ d'↔x ∈ s.d∧x ∉ l
 | [],s,h=>⟨s.d,rfl,h,fun x=>by simp⟩
 | y :: l,s,h=>by
  have h1:Gok n ⟨s.i,s.d.filter (fun z=>z != y),s.born,s.bs⟩:=⟨h.1.filter _,fun x hx=>h.2.1 x (List.mem_filter.1 hx).1,h.2.2⟩
  obtain ⟨d',g1,g2,g3⟩:=runS_DE hn l _ h1
  refine ⟨d',?_,g2,fun x=>?_⟩
  ·rw [List.map_cons,zC2 (zY9 (by simp [zB8]) h1 hn)]
   exact g1
  ·rw [g3]
   show x ∈ s.d.filter _∧_↔_
   rw [List.mem_filter,List.mem_cons]
   constructor
   ·rintro ⟨⟨a,b⟩,c⟩
    exact ⟨a,fun q=>q.elim (fun q=>by simp [q] at b) c⟩
   ·rintro ⟨a,b⟩
    exact ⟨⟨a,by simpa using fun q=>b (.inl q)⟩,fun q=>b (.inr q)⟩
theorem runS_D {n:Nat} (hn:n≤40):∀ (l:List Int) (s:Gst),Gok n s→(∀ x ∈ l,0≤x∧x < (n:Int))→∃ d',jT (zC5 n) (l.map fun x=>⟨4,x,eB⟩) s=some ⟨s.i,d',s.born,s.bs⟩∧Gok n ⟨s.i,d',s.born,s.bs⟩∧∀ x,x ∈ d'↔x ∈ s.d∨x ∈ l
 | [],s,h,_=>⟨s.d,rfl,h,fun x=>by simp⟩
 | y :: l,s,h,hl=>by
  have h1:Gok n ⟨s.i,withN s.d y,s.born,s.bs⟩:=⟨withN_pw h.1,fun x hx=>by
   rcases withN_mem.1 hx with q | rfl
   ·exact h.2.1 x q
   ·exact hl x (by simp),h.2.2⟩
  obtain ⟨d',g1,g2,g3⟩:=runS_D hn l _ h1 (fun x hx=>hl x (by simp [hx]))
  refine ⟨d',?_,g2,fun x=>?_⟩
  ·rw [List.map_cons,zC2 (zY9 (by simp [zB8]) h1 hn)]
   exact g1
  ·rw [g3]
   show x ∈ withN s.d y∨_↔_
   rw [withN_mem,List.mem_cons,or_assoc]
theorem mk4_runS {n:Nat} (hn:n≤40) {j:Int} {e:List Int} {s:Gst} (h:Gok n s) (he:e.Pairwise (· < ·)) (he2:∀ x ∈ e,0≤x∧x < (n:Int)) (hi:s.i=j∨0≤s.i∨s.i = -1) (hj:0≤j∨j = -1) :
  jT (zC5 n) (mk4 s.i s.d j e) s=some ⟨j,e,s.born,s.bs⟩∧Gok n ⟨j,e,s.born,s.bs⟩:=by
 obtain ⟨d1,a1,a2,a3⟩:=runS_DE hn (s.d.reverse.filter fun x=>!e.contains x) s h
 have hg:∀ (i:Int),Gok n ⟨i,d1,s.born,s.bs⟩:=fun i=>a2
 have b:jT (zC5 n) (mIE s.i j++mI s.i j) ⟨s.i,d1,s.born,s.bs⟩=some ⟨j,d1,s.born,s.bs⟩:=by
  unfold mIE mI
  by_cases hij:s.i=j
  ·rw [hij]
   simp [jT]
  ·have hne:(s.i != j)=true:=by simpa using hij
   rw [hne,Bool.true_and,Bool.true_and]
   by_cases hi':0≤s.i <;> by_cases hj':0≤j
   ·rw [if_pos (by simpa using hi'),if_pos (by simpa using hj')]
    rw [List.singleton_append,zC2 (zY9 (s':=⟨-1,d1,s.born,s.bs⟩) (by simp [zB8]) (hg _) hn),zC2 (zY9 (s':=⟨j,d1,s.born,s.bs⟩) (by simp [zB8]) (hg _) hn)]
    rfl
   ·rw [if_pos (by simpa using hi'),if_neg (by simpa using hj'),List.append_nil]
    have:j = -1:=hj.resolve_left hj'
    subst this
    rw [zC2 (zY9 (s':=⟨-1,d1,s.born,s.bs⟩) (by simp [zB8]) (hg _) hn)]
    rfl
   ·rw [if_neg (by simpa using hi'),if_pos (by simpa using hj'),List.nil_append,zC2 (zY9 (s':=⟨j,d1,s.born,s.bs⟩) (by simp [zB8]) (hg _) hn)]
    rfl
   ·rcases hi with q | q | q
    ·exact absurd q hij
    ·exact absurd q hi'
    ·exact absurd (q.trans (hj.resolve_left hj').symm) hij
 obtain ⟨d3,c1,c2,c3⟩:=runS_D hn (e.filter fun x=>!s.d.contains x) ⟨j,d1,s.born,s.bs⟩ (hg j) (fun x hx=>he2 x (List.mem_filter.1 hx).1)
 have hd3:d3=e:=qM3 c2.1 he (fun x=>by
  rw [c3]
  show x ∈ d1∨_↔_
  rw [a3,List.mem_filter,List.mem_filter]
  simp only [List.mem_reverse,Bool.not_eq_true',not_and,Bool.not_eq_false]
  constructor
  ·rintro (⟨p,q⟩ | q)
   ·simpa using q p
   ·exact q.1
  ·intro q
   by_cases hx:x ∈ s.d
   ·exact .inl ⟨hx,fun _=>by simpa using q⟩
   ·exact .inr ⟨q,by simpa using hx⟩)
 subst hd3
 refine ⟨?_,c2⟩
 unfold mk4 mDE mD
 rw [List.append_assoc,List.append_assoc,zZ3,a1,Option.bind_some,← List.append_assoc,zZ3,b,Option.bind_some]
 exact c1
theorem goR_runS {g:List (List Int)} (hn:g.length≤40):∀ (bs:List T_impl_Body) (c:Int→Int) (s:Gst),okF g c bs→Gok g.length s→s.bs.length+bs.length≤300→(0≤s.i∨s.i = -1)→s.born.length=g.length→(∀ v:Nat,v < g.length→s.born.getD v 0=c v) →
  ∃ born,jT (zC5 g.length) (goR s.i s.d bs) s=some ⟨-1,[],born,s.bs++bs⟩
 | [],c,s,_,h,hl,hi,_,_=>by
  obtain ⟨h1,_⟩:=mk4_runS hn (j:=-1) (e:=[]) h List.Pairwise.nil (fun x hx=>by cases hx) (.inr hi) (.inr rfl)
  refine ⟨s.born,?_⟩
  unfold goR
  rw [h1,List.append_nil]
 | b :: bs,c,s,hk,h,hl,hi,hbl,hc=>by
  obtain ⟨k1,k2,k3⟩:=hk
  obtain ⟨i0,i1⟩:=qK9 k1
  have hrise:rise b.Dels g.length=true:=by
   unfold stat at k1
   simp only [Bool.and_eq_true] at k1
   exact k1.1.2
  have hpw:=rise_pw hrise
  obtain ⟨h1,h2⟩:=mk4_runS hn (j:=b.Ins) (e:=b.Dels) h hpw (fun x hx=>by have:=qD6 hrise hx; omega) (.inr hi) (.inl i0)
  have hb:s.born.getD b.Ins.toNat 0=b.Ord:=by
   rw [hc b.Ins.toNat (by omega),k2]
   congr 1
   omega
  rw [List.length_cons] at hl
  have h3:Gok g.length ⟨b.Ins,b.Dels,s.born.set b.Ins.toNat (s.born.getD b.Ins.toNat 0+1),s.bs++[b]⟩:=⟨h2.1,h2.2.1,by rw [List.length_append,List.length_singleton]; omega⟩
  obtain ⟨born,g1⟩:=goR_runS hn bs (inc c b.Ins) ⟨b.Ins,b.Dels,s.born.set b.Ins.toNat (s.born.getD b.Ins.toNat 0+1),s.bs++[b]⟩ k3 h3 (by rw [List.length_append,List.length_singleton]; omega) (.inl i0) (by rw [List.length_set]; exact hbl) (fun v hv=>by
   show (s.born.set b.Ins.toNat (s.born.getD b.Ins.toNat 0+1)).getD v 0=_
   rw [qA5]
   unfold inc
   by_cases e:(v:Int)=b.Ins
   ·have e2:b.Ins.toNat=v:=by omega
    rw [if_pos ⟨e2,by omega⟩,if_pos e,e2,hc v hv]
   ·rw [if_neg (fun h=>e (by omega)),if_neg e,hc v hv])
  refine ⟨born,?_⟩
  unfold goR
  rw [zZ3,h1,Option.bind_some,zC2 (zY9 (s':=⟨b.Ins,b.Dels,s.born.set b.Ins.toNat (s.born.getD b.Ins.toNat 0+1),s.bs++[b]⟩) ?_ h3 hn),g1,List.append_assoc]
  ·rfl
  ·simp only [zB8,beq_self_eq_true,if_true,hb,show ((1:Int) == 2)=false from rfl,show ((1:Int) == 3)=false from rfl,show ((1:Int) == 4)=false from rfl,show ((1:Int) == 5)=false from rfl,Bool.false_eq_true,if_false]
   rw [if_pos (by simp; omega)]
end Go.TV.F
namespace Go.TV.F
open Go.TV
theorem iter_cj {σ τ ρ:Type} {f:τ→Option (τ⊕ρ)} {g:σ→Option (σ⊕ρ)} (φ:σ→τ) (h:∀ s,f (φ s)=(g s).map (Sum.map φ id)):∀ (n:Nat) (s:σ),iter f n (φ s)=iter g n s
 | 0,_=>rfl
 | n+1,s=>by
  simp only [iter]
  rw [h s]
  cases g s with
  | none=>rfl
  | some r =>
   cases r with
   | inl s'=>exact iter_cj φ h n s'
   | inr r=>rfl
theorem loopM_cj {σ τ ρ:Type} {f:τ→Option (τ⊕ρ)} {g:σ→Option (σ⊕ρ)} (φ:σ→τ) (h:∀ s,f (φ s)=(g s).map (Sum.map φ id)) (s:σ):zC f (φ s)=zC g s:=by
 apply Option.ext
 intro r
 rw [loopM_iff,loopM_iff]
 constructor
 ·rintro ⟨n,h1⟩
  exact ⟨n,by rw [← iter_cj φ h n s]; exact h1⟩
 ·rintro ⟨n,h1⟩
  exact ⟨n,by rw [iter_cj φ h n s]; exact h1⟩
theorem back_loop {α β ρ:Type} {body:Int×List β→Option ((Int×List β)⊕ρ)} (l:List α) (p:α→Bool) (f:α→β) (fin:List β→ρ)
  (hs:∀ (k:Nat) (x:α) (out:List β),l[k]? = some x→k < l.length→out.length≤l.length→body ((k:Int),out)=some (.inl ((k:Int) - 1,if p x=true then out++[f x] else out)))
  (he:∀ out,body (-1,out)=some (.inr (fin out))):zC body ((l.length:Int) - 1,[])=some (fin ((l.reverse.filter p).map f)):=by
 have h:=uW (body:=body) (r:=fin ((l.reverse.filter p).map f)) (fun j=>((l.length:Int) - 1 - j,((l.reverse.take j).filter p).map f)) l.length (fun j hj=>by
  have hk:(l.length:Int) - 1 - (j:Int)=((l.length - 1 - j:Nat):Int):=by omega
  have hx:l[l.length - 1 - j]? = some (l[l.length - 1 - j]'(by omega)):=List.getElem?_eq_getElem (by omega)
  have hlen:(((l.reverse.take j).filter p).map f).length≤l.length:=by
   rw [List.length_map]
   refine Nat.le_trans (List.length_filter_le _ _) ?_
   rw [List.length_take,List.length_reverse]
   omega
  rw [hk,hs _ _ _ hx (by omega) hlen]
  have hr:l.reverse[j]? = some (l[l.length - 1 - j]'(by omega)):=by
   rw [List.getElem?_reverse (by omega)]
   exact hx
  rw [List.take_add_one,hr]
  have e1:((l.length - 1 - j:Nat):Int) - 1=(l.length:Int) - 1 - ((j+1:Nat):Int):=by omega
  rw [e1]
  simp only [Option.toList,List.filter_append,List.map_append]
  cases q:p (l[l.length - 1 - j]'(by omega)) <;> simp [q]) (by
  have:(l.length:Int) - 1 - (l.length:Int) = -1:=by omega
  rw [this,he,List.take_of_length_le (by rw [List.length_reverse]; exact Nat.le_refl _)])
 simpa using h
theorem filtm_loop {α β ρ:Type} {body:Int×List β→Option ((Int×List β)⊕ρ)} (l:List α) (p:α→Bool) (f:α→β) (fin:List β→ρ) (o0:List β)
  (hs:∀ (k:Nat) (x:α) (out:List β),l[k]? = some x→k < l.length→out.length≤o0.length+k→body ((k:Int),out)=some (.inl (((k+1:Nat):Int),if p x=true then out++[f x] else out)))
  (he:∀ out,body ((l.length:Int),out)=some (.inr (fin out))):zC body (0,o0)=some (fin (o0++(l.filter p).map f)):=by
 rw [fold_loop l (fun out x=>if p x=true then out++[f x] else out) (fun k out=>out.length≤o0.length+k) fin o0 (by omega) (fun k x out hx hk ho=>⟨hs k x out hx hk ho,by split <;> (try rw [List.length_append,List.length_singleton]) <;> omega⟩) he]
 congr 2
 clear hs he
 induction l generalizing o0 with
 | nil=>simp
 | cons x l ih =>
  rw [List.foldl_cons,ih]
  cases q:p x <;> simp [q]
theorem mDE_len (d e:List Int):(mDE d e).length≤d.length:=by
 unfold mDE
 rw [List.length_map]
 refine Nat.le_trans (List.length_filter_le _ _) ?_
 rw [List.length_reverse]
 omega
theorem mD_len (d e:List Int):(mD d e).length≤e.length:=by
 unfold mD
 rw [List.length_map]
 exact List.length_filter_le _ _
theorem qF4 (i:Int) (d:List Int) (j:Int) (e:List Int):(mk4 i d j e).length≤d.length+e.length+2:=by
 have h1:=mDE_len d e
 have h2:=mD_len d e
 have h3:(mIE i j).length≤1:=by unfold mIE; split <;> simp
 have h4:(mI i j).length≤1:=by unfold mI; split <;> simp
 unfold mk4
 simp only [List.length_append]
 omega
theorem marksI {i:Int} {d:List Int} {j:Int} {e:List Int} (hd:d.length≤100000000) (he:e.length≤100000000):zV6 i d j e=some (mk4 i d j e):=by
 unfold zV6
 have h1:=mDE_len d e
 rw [qM (by omega) (by omega)]
 rw [back_loop (body:=fun (s':Int×(List T_impl_Rec))=>zH7 d e s'.1 s'.2) d (fun x=>!e.contains x) (fun x=>(⟨5,x,eB⟩:T_impl_Rec)) id (fun k x out hx hk ho=>by
  simp only [zH7]
  rw [ifT (by simp),zF,hx,Option.bind_some,contains_eq (by omega),Option.bind_some,zK (by simp; omega),qM (by omega) (by omega)]
  cases e.contains x <;> rfl) (fun out=>by
  simp only [zH7]
  rw [ifF (by simp)]
  rfl)]
 rw [Option.bind_some]
 change zR0 i d j e (mDE d e)=_
 have hb:∀ (c q:Bool),(if c=true then some q else some false)=some (c && q):=fun c q=>by cases c <;> rfl
 have hl:∀ out:List T_impl_Rec,out.length≤200000000→zH6 d e out=some (out++mD d e):=fun out ho=>by
  unfold zH6
  rw [filtm_loop (body:=fun (s':Int×(List T_impl_Rec))=>zI0 d e s'.1 s'.2) e (fun x=>!d.contains x) (fun x=>(⟨4,x,eB⟩:T_impl_Rec)) id out (fun k x out' hx hk ho'=>by
   simp only [zI0]
   rw [ifT (by simpa using hk),zF,hx,Option.bind_some,contains_eq (by omega),Option.bind_some,zK (by simp; omega),wkS k (by omega)]
   cases d.contains x <;> rfl) (fun out'=>by
   simp only [zI0]
   rw [ifF (by simp)]
   rfl)]
  rfl
 have h2:∀ out:List T_impl_Rec,out.length≤150000000→zI7 i d j e out=some (out++mI i j++mD d e):=fun out ho=>by
  unfold zI7 mI
  rw [hb,Option.bind_some]
  cases q:(i != j && decide (j≥0)) with
  | true=>rw [if_pos rfl,if_pos rfl,zK (by simp; omega),Option.bind_some,hl _ (by simp; omega)]
  | false=>rw [if_neg (by simp),if_neg (by simp),hl _ (by omega),List.append_nil]
 unfold zR0 mk4 mIE
 rw [hb,Option.bind_some]
 cases q:(i != j && decide (i≥0)) with
 | true=>rw [if_pos rfl,if_pos rfl,zK (by simp; omega),Option.bind_some,h2 _ (by simp; omega)]
 | false=>rw [if_neg (by simp),if_neg (by simp),h2 _ (by omega),List.append_nil]
theorem marksS {a b:T_impl_Body} (hd:a.Dels.length≤100000000) (he:b.Dels.length≤100000000):zI1 a b=some (mk4 a.Ins a.Dels b.Ins b.Dels):=by
 unfold zI1
 have h1:=mDE_len a.Dels b.Dels
 rw [qM (by omega) (by omega)]
 rw [back_loop (body:=fun (s':Int×(List T_impl_Rec))=>zA2 a b s'.1 s'.2) a.Dels (fun x=>!b.Dels.contains x) (fun x=>(⟨5,x,eB⟩:T_impl_Rec)) id (fun k x out hx hk ho=>by
  simp only [zA2]
  rw [ifT (by simp),zF,hx,Option.bind_some,l07In_eq (by omega),Option.bind_some,zK (by simp; omega),qM (by omega) (by omega)]
  cases b.Dels.contains x <;> rfl) (fun out=>by
  simp only [zA2]
  rw [ifF (by simp)]
  rfl)]
 rw [Option.bind_some]
 change zG8 a b (mDE a.Dels b.Dels)=_
 have hl:∀ out:List T_impl_Rec,out.length≤200000000→yX a b out=some (out++mD a.Dels b.Dels):=fun out ho=>by
  unfold yX
  rw [filtm_loop (body:=fun (s':Int×(List T_impl_Rec))=>zA8 a b s'.1 s'.2) b.Dels (fun x=>!a.Dels.contains x) (fun x=>(⟨4,x,eB⟩:T_impl_Rec)) id out (fun k x out' hx hk ho'=>by
   simp only [zA8]
   rw [ifT (by simpa using hk),zF,hx,Option.bind_some,l07In_eq (by omega),Option.bind_some,zK (by simp; omega),wkS k (by omega)]
   cases a.Dels.contains x <;> rfl) (fun out'=>by
   simp only [zA8]
   rw [ifF (by simp)]
   rfl)]
  rfl
 have h2:∀ out:List T_impl_Rec,out.length≤150000000→(a.Ins != b.Ins)=true→zA1 a b out=some (out++mI a.Ins b.Ins++mD a.Dels b.Dels):=fun out ho hne=>by
  unfold zA1 mI
  rw [hne,Bool.true_and]
  cases q:decide (b.Ins≥0) with
  | true=>rw [if_pos rfl,if_pos rfl,zK (by simp; omega),Option.bind_some,hl _ (by simp; omega)]
  | false=>rw [if_neg (by simp),if_neg (by simp),hl _ (by omega),List.append_nil]
 unfold zG8 mk4
 cases hne:(a.Ins != b.Ins) with
 | false =>
  rw [if_neg (by simp),hl _ (by omega)]
  unfold mIE mI
  rw [hne]
  simp
 | true =>
  rw [if_pos rfl]
  unfold mIE
  rw [hne,Bool.true_and]
  cases q:decide (a.Ins≥0) with
  | true=>rw [if_pos rfl,if_pos rfl,zK (by simp; omega),Option.bind_some,h2 _ (by simp; omega) hne]
  | false=>rw [if_neg (by simp),if_neg (by simp),h2 _ (by omega) hne,List.append_nil]
def recS (s:Int×List Int×List T_impl_Rec) (b:T_impl_Body):Int×List Int×List T_impl_Rec:=(b.Ins,b.Dels,s.2.2++mk4 s.1 s.2.1 b.Ins b.Dels++[⟨1,0,b.Line⟩])
def jD (w:T_impl_Weave):List T_impl_Rec:=goR (-1) [] w.Bodies
theorem goR_cons (i:Int) (d:List Int) (b:T_impl_Body) (bs:List T_impl_Body):goR i d (b :: bs)=mk4 i d b.Ins b.Dels++⟨1,0,b.Line⟩ :: goR b.Ins b.Dels bs:=by rw [goR]
theorem recS_go:∀ (bs:List T_impl_Body) (i:Int) (d:List Int) (acc:List T_impl_Rec),(bs.foldl recS (i,d,acc)).2.2++mk4 (bs.foldl recS (i,d,acc)).1 (bs.foldl recS (i,d,acc)).2.1 (-1) []=acc++goR i d bs
 | [],i,d,acc=>rfl
 | b :: bs,i,d,acc=>by
  rw [List.foldl_cons]
  rw [show recS (i,d,acc) b=(b.Ins,b.Dels,acc++mk4 i d b.Ins b.Dels++[⟨1,0,b.Line⟩]) from rfl,recS_go bs b.Ins b.Dels,goR_cons]
  simp
def delsSm (w:T_impl_Weave):Prop:=w.Bodies.length≤100000∧∀ b ∈ w.Bodies,b.Dels.length≤100000
theorem delsSm.ok {w:T_impl_Weave} (h:delsSm w):qC1 w:=⟨by have:=h.1; omega,fun b hb=>by have:=h.2 b hb; omega⟩
def recI (k:Nat) (s:Int×List Int×List T_impl_Rec):Prop:=s.2.1.length≤100000∧s.2.2.length≤k * 200003
theorem recI_step {w:T_impl_Weave} (hw:delsSm w) {k:Nat} {b:T_impl_Body} {s:Int×List Int×List T_impl_Rec} (hb:w.Bodies[k]? = some b) (h:recI k s):recI (k+1) (recS s b):=by
 have hl:=hw.2 b (List.mem_of_getElem? hb)
 have:=qF4 s.1 s.2.1 b.Ins b.Dels
 obtain ⟨h1,h2⟩:=h
 refine ⟨hl,?_⟩
 show (s.2.2++mk4 s.1 s.2.1 b.Ins b.Dels++[(⟨1,0,b.Line⟩:T_impl_Rec)]).length≤_
 rw [List.length_append,List.length_append,List.length_singleton]
 omega
theorem recs_end {w:T_impl_Weave} (hw:delsSm w):recI w.Bodies.length (w.Bodies.foldl recS (-1,[],[])):=by
 have key:∀ (m pre:List T_impl_Body) (s:Int×List Int×List T_impl_Rec),w.Bodies=pre++m→recI pre.length s→recI w.Bodies.length (m.foldl recS s):=by
  intro m
  induction m with
  | nil=>intro pre s h hI; rw [h,List.append_nil]; exact hI
  | cons b m ih =>
   intro pre s h hI
   rw [List.foldl_cons]
   refine ih (pre++[b]) _ (by rw [h]; simp) ?_
   rw [List.length_append]
   exact recI_step hw (by rw [h]; simp) hI
 exact key w.Bodies [] _ rfl ⟨by simp,by simp⟩
theorem recordsI {w:T_impl_Weave} (hw:delsSm w):zM9 w=some (jD w):=by
 unfold zM9
 have hn:=hw.1
 have hloop:zC (fun (s':Int×(List Int)×Int×(List T_impl_Rec))=>vN w s'.1 s'.2.1 s'.2.2.1 s'.2.2.2) ((-1),[],0,[])=some ((w.Bodies.foldl recS (-1,[],[]))):=by
  have:=loopM_cj (f:=fun (s':Int×(List Int)×Int×(List T_impl_Rec))=>vN w s'.1 s'.2.1 s'.2.2.1 s'.2.2.2) (g:=fun (s:Int×(Int×List Int×List T_impl_Rec))=>(vN w s.2.1 s.2.2.1 s.1 s.2.2.2).map (Sum.map (fun (t:Int×(List Int)×Int×(List T_impl_Rec))=>(t.2.2.1,t.1,t.2.1,t.2.2.2)) id)) (fun s=>(s.2.1,s.2.2.1,s.1,s.2.2.2)) (fun s=>by
   cases vN w s.2.1 s.2.2.1 s.1 s.2.2.2 with
   | none=>rfl
   | some x=>cases x <;> rfl) (0,-1,[],[])
  rw [this]
  refine fold_loop (fin:=id) w.Bodies recS recI (-1,[],[]) ⟨by simp,by simp⟩ (fun k b s hb hk hI=>⟨?_,recI_step hw hb hI⟩) (fun s=>?_)
  ·obtain ⟨h1,h2⟩:=hI
   have hl:=hw.2 b (List.mem_of_getElem? hb)
   have hm:=qF4 s.1 s.2.1 b.Ins b.Dels
   have h3:k * 200003≤100000 * 200003:=Nat.mul_le_mul_right _ (by omega)
   simp only [vN]
   rw [ifT (by simpa using hk),zF,hb,Option.bind_some,marksI (by omega) (by omega),Option.bind_some,zK (by omega),Option.bind_some,zK (by simp; omega),Option.bind_some,wkS k (by omega)]
   rfl
  ·simp only [vN]
   rw [ifF (by simp)]
   rfl
 rw [hloop,Option.bind_some]
 obtain ⟨h1,h2⟩:=recs_end hw
 have h3:w.Bodies.length * 200003≤100000 * 200003:=Nat.mul_le_mul_right _ (by omega)
 have hm:=qF4 (w.Bodies.foldl recS (-1,[],[])).1 (w.Bodies.foldl recS (-1,[],[])).2.1 (-1) []
 simp only [List.length_nil] at hm
 unfold zS5
 rw [marksI (by omega) (by simp),Option.bind_some,zK (by omega),Option.bind_some,recS_go]
 rfl
theorem recordsS {w:T_impl_Weave} (hw:delsSm w):zJ2 w=some (jD w):=by
 unfold zJ2
 have hn:=hw.1
 have hstep:∀ (k:Nat) (b:T_impl_Body) (out:List T_impl_Rec) (l0:ByteArray) (i:Int) (o:Int) (d:List Int),w.Bodies[k]? = some b→k < w.Bodies.length→recI k (i,d,out) →
   kJ w (k:Int) out l0 i o d=some (.inl (((k+1:Nat):Int),(recS (i,d,out) b).2.2,b.Line,b.Ins,b.Ord,b.Dels)):=fun k b out l0 i o d hb hk hI=>by
  obtain ⟨h1,h2⟩:=hI
  have hl:=hw.2 b (List.mem_of_getElem? hb)
  have hm:=qF4 i d b.Ins b.Dels
  have h3:k * 200003≤100000 * 200003:=Nat.mul_le_mul_right _ (by omega)
  simp only at h1 h2
  simp only [kJ]
  rw [ifT (by simpa using hk),zF,hb,Option.bind_some,marksS (by show d.length≤_; omega) (by show b.Dels.length≤_; omega),Option.bind_some,zK (by simp only; omega),Option.bind_some,Option.bind_some,zK (by simp; omega),Option.bind_some,wkS k (by omega)]
  rfl
 have hloop:∃ r:List T_impl_Rec×ByteArray×Int×Int×List Int,zC (fun (s':Int×(List T_impl_Rec)×ByteArray×Int×Int×(List Int))=>kJ w s'.1 s'.2.1 s'.2.2.1 s'.2.2.2.1 s'.2.2.2.2.1 s'.2.2.2.2.2) (0,[],(ByteArray.mk #[]),(-1),0,[])=some r∧(r.2.2.1,r.2.2.2.2,r.1)=w.Bodies.foldl recS (-1,[],[]):=by
  have key:∀ (m pre:List T_impl_Body) (out:List T_impl_Rec) (l0:ByteArray) (i o:Int) (d:List Int),w.Bodies=pre++m→recI pre.length (i,d,out) →
    ∃ r:List T_impl_Rec×ByteArray×Int×Int×List Int,zC (fun (s':Int×(List T_impl_Rec)×ByteArray×Int×Int×(List Int))=>kJ w s'.1 s'.2.1 s'.2.2.1 s'.2.2.2.1 s'.2.2.2.2.1 s'.2.2.2.2.2) ((pre.length:Int),out,l0,i,o,d)=some r∧(r.2.2.1,r.2.2.2.2,r.1)=m.foldl recS (i,d,out):=by
   intro m
   induction m with
   | nil =>
    intro pre out l0 i o d h hI
    refine ⟨(out,l0,i,o,d),?_,rfl⟩
    rw [zJ]
    simp only [kJ]
    rw [ifF (by rw [h]; simp)]
    rfl
   | cons b m ih =>
    intro pre out l0 i o d h hI
    have hb:w.Bodies[pre.length]? = some b:=by rw [h]; simp
    rw [zJ,hstep pre.length b out l0 i o d hb (by rw [h]; simp) hI]
    have:=ih (pre++[b]) (recS (i,d,out) b).2.2 b.Line b.Ins b.Ord b.Dels (by rw [h]; simp) (by rw [List.length_append]; exact recI_step hw hb hI)
    rw [List.length_append] at this
    exact this
  exact key w.Bodies [] [] _ _ _ _ rfl ⟨by simp,by simp⟩
 obtain ⟨r,hr1,hr2⟩:=hloop
 rw [hr1,Option.bind_some]
 obtain ⟨h1,h2⟩:=recs_end hw
 have h3:w.Bodies.length * 200003≤100000 * 200003:=Nat.mul_le_mul_right _ (by omega)
 have he:=recS_go w.Bodies (-1) [] []
 rw [← hr2] at h1 h2 he
 simp only at h1 h2 he
 have hm:=qF4 r.2.2.1 r.2.2.2.2 (-1) []
 simp only [List.length_nil] at hm
 unfold zK1
 rw [marksS (by show r.2.2.2.2.length≤_; omega) (by simp),Option.bind_some]
 simp only
 rw [zK (by omega),Option.bind_some,he]
 rfl
def recB (w:T_impl_Weave):List T_impl_Rec×Bool:=if wOk w=true then (if (jD w).length > 4000 then ([],false) else (jD w,true)) else ([],false)
theorem RecordsI {w:T_impl_Weave} (hp:w.Parents.length≤1000) (hw:delsSm w):zN0 w=some (recB w):=by
 unfold zN0 recB
 rw [show T_impl_Weave.mk w.Parents w.Bodies=w from rfl,weaveOkI (by omega) hw.ok,Option.bind_some,recordsI hw]
 cases wOk w with
 | false=>rfl
 | true =>
  simp only [Bool.not_true,Bool.false_eq_true,if_false,Option.bind_some,if_true,decide_eq_true_eq]
  by_cases h:(jD w).length > 4000
  ·rw [if_pos (by omega),if_pos h]
  ·rw [if_neg (by omega),if_neg h]
theorem RecordsS {w:T_impl_Weave} (hp:w.Parents.length≤1000) (hw:delsSm w) (hx:∀ b ∈ w.Bodies,b.Line.size≤1000000000):zG5 w=some (recB w):=by
 unfold zG5 recB
 rw [show T_impl_Weave.mk w.Parents w.Bodies=w from rfl,weaveOkS (by omega) hw.ok hx,Option.bind_some,recordsS hw]
 cases wOk w with
 | false=>rfl
 | true =>
  simp only [Bool.not_true,Bool.false_eq_true,if_false,Option.bind_some,if_true,decide_eq_true_eq]
  by_cases h:(jD w).length > 4000
  ·rw [if_pos (by omega),if_pos h]
  ·rw [if_neg (by omega),if_neg h]
end Go.TV.F
namespace Go.TV.F
open Go.TV
noncomputable def eqQ {α:Type} (a b:α):Bool:=@decide (a=b) (Classical.propDecidable _)
theorem eqQ_iff {α:Type} {a b:α}:eqQ a b=true↔a=b:=by unfold eqQ; exact @decide_eq_true_iff _ (Classical.propDecidable _)
theorem bool_ext {a b:Bool} (h:a=true↔b=true):a=b:=by cases a <;> cases b <;> simp_all
theorem rec_eq {x y:T_impl_Rec}:((x.Kind == y.Kind) && ((x.Version == y.Version) && (x.Line.toList == y.Line.toList)))=eqQ x y:=by
 refine bool_ext ?_
 rw [eqQ_iff,Bool.and_eq_true,Bool.and_eq_true,beq_iff_eq,beq_iff_eq,beq_nb,decide_eq_true_iff]
 constructor
 ·rintro ⟨h1,h2,h3⟩
  cases x
  cases y
  simp only at h1 h2 h3
  rw [h1,h2,nb_inj h3]
 ·rintro rfl
  exact ⟨rfl,rfl,rfl⟩
theorem list_eq_all {α:Type} {a b:List α} (h:a.length=b.length):((List.range a.length).all fun k=>eqQ a[k]? b[k]?)=eqQ a b:=by
 refine bool_ext ?_
 rw [eqQ_iff,List.all_eq_true]
 constructor
 ·intro hk
  apply List.ext_getElem?
  intro k
  by_cases q:k < a.length
  ·exact eqQ_iff.1 (hk k (List.mem_range.2 q))
  ·rw [List.getElem?_eq_none (by omega),List.getElem?_eq_none (by omega)]
 ·rintro rfl k _
  exact eqQ_iff.2 rfl
theorem opt_eq {α:Type} {x y:α}:eqQ (some x) (some y)=eqQ x y:=bool_ext (by rw [eqQ_iff,eqQ_iff,Option.some.injEq])
theorem same_loop {body:Int→Option (Int⊕(Bool⊕Unit))} {a b:List T_impl_Rec} (h:a.length=b.length) (hl:a.length≤1000000000)
  (hs:∀ (k:Nat) (x y:T_impl_Rec),a[k]? = some x→b[k]? = some y→k < a.length→body (k:Int)=some (if (!((x.Kind == y.Kind) && ((x.Version == y.Version) && (x.Line.toList == y.Line.toList))))=true then .inr (.inl false) else .inl ((k+1:Nat):Int)))
  (he:body (a.length:Int)=some (.inr (.inr ()))):zC body 0=some (if eqQ a b=true then .inr () else .inl false):=by
 rw [← list_eq_all h]
 refine all_loopN a.length _ (fun k hk _=>?_) he
 rw [hs k a[k] (b[k]'(by omega)) (List.getElem?_eq_getElem hk) (List.getElem?_eq_getElem (by omega)) hk,rec_eq,List.getElem?_eq_getElem hk,List.getElem?_eq_getElem (by omega:k < b.length),opt_eq]
 cases eqQ a[k] (b[k]'(by omega)) <;> rfl
theorem len_ne {a b:Nat}:(((a:Int)) != (b:Int))=!decide (a=b):=by
 by_cases h:a=b
 ·subst h; simp
 ·have:¬((a:Int)=b):=by omega
  simp [h,this]
theorem sameS_eq {a b:List T_impl_Rec} (hl:a.length≤1000000000):zT8 a b=some (eqQ a b):=by
 unfold zT8
 rw [len_ne]
 by_cases h:a.length=b.length
 ·rw [ifF (by simp [h]),same_loop (body:=fun (s':Int)=>zC3 a b s') h hl (fun k x y hx hy hk=>by
   simp only [zC3]
   rw [ifT (by simpa using hk),zF,hx,Option.bind_some,zF,hy,Option.bind_some,wkS k (by omega)]
   cases (!((x.Kind == y.Kind) && ((x.Version == y.Version) && (x.Line.toList == y.Line.toList)))) <;> rfl) (by
   simp only [zC3]
   rw [ifF (by simp)])]
  cases eqQ a b <;> rfl
 ·rw [ifT (by simp [h])]
  have:eqQ a b=false:=by
   cases q:eqQ a b with
   | false=>rfl
   | true=>rw [eqQ_iff] at q; exact absurd (by rw [q]) h
  rw [this]
theorem equalI_eq {a b:List T_impl_Rec} (hl:a.length≤1000000000):xG a b=some (eqQ a b):=by
 unfold xG
 rw [len_ne]
 by_cases h:a.length=b.length
 ·rw [ifF (by simp [h]),same_loop (body:=fun (s':Int)=>qW a b s') h hl (fun k x y hx hy hk=>by
   simp only [qW]
   rw [ifT (by simpa using hk),zF,hx,Option.bind_some,zF,hy,Option.bind_some,wkS k (by omega)]
   cases (!((x.Kind == y.Kind) && ((x.Version == y.Version) && (x.Line.toList == y.Line.toList)))) <;> rfl) (by
   simp only [qW]
   rw [ifF (by simp)])]
  cases eqQ a b <;> rfl
 ·rw [ifT (by simp [h])]
  have:eqQ a b=false:=by
   cases q:eqQ a b with
   | false=>rfl
   | true=>rw [eqQ_iff] at q; exact absurd (by rw [q]) h
  rw [this]
theorem without_eq {l:List Int} (hl:l.length≤1000000) (x:Int):zK9 l x=some (l.filter fun y=>y != x):=by
 unfold zK9
 rw [filt_from (body:=fun (s':Int×(List Int))=>uD l x s'.1 s'.2) l (fun y=>y != x) [] (fun k y out hy hk ho=>by
  simp only [List.length_nil] at ho
  simp only [uD]
  rw [ifT (by simpa using hk),zF,hy,Option.bind_some,zK (by simp; omega),wkS k (by omega)]
  split <;> rfl) (fun out=>by
  simp only [uD]
  rw [ifF (by simp)])]
 rfl
def GI (n k:Nat) (s:Gst):Prop:=s.d.length≤40∧s.bs.length≤300∧s.born.length=n∧(∀ v,0≤s.born.getD v 0∧s.born.getD v 0≤k)∧∀ b ∈ s.bs,b.Dels.length≤40∧b.Line.size≤1000000000
def w00:T_impl_Weave×Bool:=(⟨[],[]⟩,false)
noncomputable def finR (g:List (List Int)) (list:List T_impl_Rec) (bs:List T_impl_Body):T_impl_Weave×Bool:=
 if (wOk ⟨g,bs⟩ && (decide ((jD ⟨g,bs⟩).length≤4000) && eqQ (jD ⟨g,bs⟩) list))=true then (⟨g,bs⟩,true) else w00
noncomputable def frS (g:List (List Int)) (list:List T_impl_Rec):T_impl_Weave×Bool:=
 if (gOk g && decide (list.length≤4000))=true then fromR (fun s=>finR g list s.bs) w00 (jT (zC5 g.length) list ⟨-1,[],List.replicate g.length 0,[]⟩) else w00
theorem born_getD {n k:Nat} {s:Gst} (h:GI n k s) {v:Int} (h0:0≤v) (h1:v≤(n:Int) - 1):zI s.born v=some (s.born.getD v.toNat 0):=by
 have hl:=h.2.2.1
 rw [zP0 h0 (by omega),getD_in (by omega)]
theorem j3_eq {i:Int} {k:Nat} (hi:i=(k:Int)) (hk:k < 1000000000) {s:Gst} :
  zO i s.bs s.born s.i s.d=some (if (decide (s.d.length > 40) || decide (s.bs.length > 300))=true then .inr (.inl w00) else .inl (((k+1:Nat):Int),s.bs,s.born,s.i,s.d)):=by
 subst hi
 unfold zO
 have h1:decide ((s.d.length:Int) > 40)=decide (s.d.length > 40):=decide_eq_decide.2 (by omega)
 have h2:decide ((s.bs.length:Int) > 300)=decide (s.bs.length > 300):=decide_eq_decide.2 (by omega)
 rw [h1,h2,orO,Option.bind_some,wkS k hk]
 cases (decide (s.d.length > 40) || decide (s.bs.length > 300)) <;> rfl
theorem fromS_loop {g:List (List Int)} (hg:g.length≤40) {list:List T_impl_Rec} (hl:list.length≤4000) (hx:∀ r ∈ list,r.Line.size≤1000000000) :
  zC (fun (s':Int×(List T_impl_Body)×(List Int)×Int×(List Int))=>qQ g list s'.1 s'.2.1 s'.2.2.1 s'.2.2.2.1 s'.2.2.2.2) (0,[],List.replicate g.length 0,(-1),[]) =
   some (fromR (fun s=>.inr s.bs) (.inl w00) (jT (zC5 g.length) list ⟨-1,[],List.replicate g.length 0,[]⟩))∧∀ s,jT (zC5 g.length) list ⟨-1,[],List.replicate g.length 0,[]⟩=some s→GI g.length list.length s:=by
 change zC _ (((0:Nat):Int),([]:List T_impl_Body),List.replicate g.length (0:Int),(-1:Int),([]:List Int))=_∧_
 refine run_loop (body:=fun (s':Int×(List T_impl_Body)×(List Int)×Int×(List Int))=>qQ g list s'.1 s'.2.1 s'.2.2.1 s'.2.2.2.1 s'.2.2.2.2) (fun k (s:Gst)=>((k:Int),s.bs,s.born,s.i,s.d)) list (zC5 g.length) (GI g.length) (.inl w00) (fun s=>.inr s.bs) ⟨-1,[],List.replicate g.length 0,[]⟩
  ⟨by simp,by simp,by simp,fun v=>by rw [List.getD_eq_getElem?_getD,List.getElem?_replicate]; split <;> simp,fun b hb=>by cases hb⟩ (fun k r s hr hk hI=>?_) (fun s hI=>?_)
 ·have hrl:=hx r (List.mem_of_getElem? hr)
  -- what comes behind a wA
  have fin:∀ s':Gst,(s'.d.length≤40→s'.bs.length≤300→GI g.length (k+1) s')→zB8 g.length s r=some s'→qQ g list (k:Int) s.bs s.born s.i s.d=zO (k:Int) s'.bs s'.born s'.i s'.d →
    (∃ s',zC5 g.length s r=some s'∧qQ g list (k:Int) s.bs s.born s.i s.d=some (.inl (((k+1:Nat):Int),s'.bs,s'.born,s'.i,s'.d))∧GI g.length (k+1) s')∨(zC5 g.length s r=none∧qQ g list (k:Int) s.bs s.born s.i s.d=some (.inr (.inl w00))):=fun s' hG h0 h1=>by
   rw [j3_eq rfl (by omega)] at h1
   cases q:(decide (s'.d.length > 40) || decide (s'.bs.length > 300)) with
   | true =>
    rw [q,if_pos rfl] at h1
    exact .inr ⟨by unfold zC5; rw [h0,Option.bind_some,q]; rfl,h1⟩
   | false =>
    rw [q,if_neg (by simp)] at h1
    simp only [Bool.or_eq_false_iff,decide_eq_false_iff_not] at q
    refine .inl ⟨s',by unfold zC5; rw [h0,Option.bind_some,if_neg (by simp; omega)],h1,hG (by omega) (by omega)⟩
  obtain ⟨i1,i2,i3,i4,i5⟩:=hI
  have keep:∀ (i:Int) (d:List Int),d.length≤40→s.bs.length≤300→GI g.length (k+1) ⟨i,d,s.born,s.bs⟩:=fun i d hd _=>⟨hd,i2,i3,fun v=>⟨(i4 v).1,by have:=(i4 v).2; show s.born.getD v 0≤_; omega⟩,i5⟩
  have hbody:qQ g list (k:Int) s.bs s.born s.i s.d=(if (r.Kind == 2)=true then zO (k:Int) s.bs s.born r.Version s.d
    else (if (r.Kind == 3)=true then zO (k:Int) s.bs s.born (-1) s.d
    else (if (r.Kind == 4)=true then zO (k:Int) s.bs s.born s.i (withN s.d r.Version)
    else (if (r.Kind == 5)=true then zO (k:Int) s.bs s.born s.i (s.d.filter fun y=>y != r.Version)
    else (if (r.Kind == 1)=true then (if (decide (0≤s.i) && decide (s.i≤(g.length:Int) - 1))=true then zO (k:Int) (s.bs++[⟨r.Line,s.i,s.born.getD s.i.toNat 0,s.d⟩]) (s.born.set s.i.toNat (s.born.getD s.i.toNat 0+1)) s.i s.d else some (.inr (.inl w00)))
    else zO (k:Int) s.bs s.born s.i s.d))))):=by
   simp only [qQ]
   rw [ifT (by simpa using hk),zF,hr,Option.bind_some,with_eq (by omega),without_eq (by omega),qE7,Option.bind_some,Option.bind_some,Option.bind_some,qM (by omega) (by omega)]
   split
   ·rfl
   split
   ·rfl
   split
   ·rfl
   split
   ·rfl
   split
   ·cases q:(decide (0≤s.i) && decide (s.i≤(g.length:Int) - 1)) with
    | false=>rfl
    | true =>
     simp only [Bool.and_eq_true,decide_eq_true_eq] at q
     have hb:=born_getD ⟨i1,i2,i3,i4,i5⟩ q.1 q.2
     have hv:=i4 s.i.toNat
     rw [if_neg (by simp),if_pos rfl,hb]
     simp only [Option.bind_some]
     rw [zK (by simp; omega),Option.bind_some,zK (by simp; omega),Option.bind_some,qM (by omega) (by omega),List.nil_append]
   ·rfl
  by_cases k2:(r.Kind == 2)=true
  ·exact fin ⟨r.Version,s.d,s.born,s.bs⟩ (keep _ _) (by unfold zB8; rw [if_pos k2]) (by rw [hbody,if_pos k2])
  by_cases k3:(r.Kind == 3)=true
  ·exact fin ⟨-1,s.d,s.born,s.bs⟩ (keep _ _) (by unfold zB8; rw [if_neg k2,if_pos k3]) (by rw [hbody,if_neg k2,if_pos k3])
  by_cases k4:(r.Kind == 4)=true
  ·exact fin ⟨s.i,withN s.d r.Version,s.born,s.bs⟩ (keep _ _) (by unfold zB8; rw [if_neg k2,if_neg k3,if_pos k4]) (by rw [hbody,if_neg k2,if_neg k3,if_pos k4])
  by_cases k5:(r.Kind == 5)=true
  ·exact fin ⟨s.i,s.d.filter fun y=>y != r.Version,s.born,s.bs⟩ (keep _ _) (by unfold zB8; rw [if_neg k2,if_neg k3,if_neg k4,if_pos k5]) (by rw [hbody,if_neg k2,if_neg k3,if_neg k4,if_pos k5])
  by_cases k1:(r.Kind == 1)=true
  ·cases q:(decide (0≤s.i) && decide (s.i≤(g.length:Int) - 1)) with
   | false =>
    refine .inr ⟨?_,?_⟩
    ·unfold zC5 zB8
     rw [if_neg k2,if_neg k3,if_neg k4,if_neg k5,if_pos k1,q]
     rfl
    ·show qQ g list (k:Int) s.bs s.born s.i s.d=_
     rw [hbody,if_neg k2,if_neg k3,if_neg k4,if_neg k5,if_pos k1,q]
     rfl
   | true =>
    refine fin ⟨s.i,s.d,s.born.set s.i.toNat (s.born.getD s.i.toNat 0+1),s.bs++[⟨r.Line,s.i,s.born.getD s.i.toNat 0,s.d⟩]⟩ (fun _ hb=>⟨i1,hb,by rw [List.length_set]; exact i3,fun v=>?_,fun b hb=>?_⟩) (by unfold zB8; rw [if_neg k2,if_neg k3,if_neg k4,if_neg k5,if_pos k1,q,if_pos rfl]) (by rw [hbody,if_neg k2,if_neg k3,if_neg k4,if_neg k5,if_pos k1,q,if_pos rfl])
    ·show 0≤(s.born.set s.i.toNat (s.born.getD s.i.toNat 0+1)).getD v 0∧(s.born.set s.i.toNat (s.born.getD s.i.toNat 0+1)).getD v 0≤((k+1:Nat):Int)
     rw [qA5]
     have h1:=i4 v
     have h2:=i4 s.i.toNat
     split <;> omega
    ·rcases List.mem_append.1 hb with hb | hb
     ·exact i5 b hb
     ·obtain rfl:=List.mem_singleton.1 hb
      exact ⟨i1,hrl⟩
  ·exact fin s (fun h _=>⟨h,i2,i3,fun v=>⟨(i4 v).1,by have:=(i4 v).2; omega⟩,i5⟩) (by unfold zB8; rw [if_neg k2,if_neg k3,if_neg k4,if_neg k5,if_neg k1]) (by rw [hbody,if_neg k2,if_neg k3,if_neg k4,if_neg k5,if_neg k1])
 ·simp only [qQ]
  rw [ifF (by simp)]
theorem copyS_loop {g:List (List Int)} (hl:g.length≤1000000) (hx:∀ p ∈ g,p.length≤1000000):zC (fun (s':Int×(List (List Int)))=>vK g s'.1 s'.2) (0,[])=some g:=by
 rw [qL8 (body:=fun (s':Int×(List (List Int)))=>vK g s'.1 s'.2) g id id (by omega) (fun k x out hk hkl ho=>by
  simp only [vK]
  have hx':=hx x (List.mem_of_getElem? hk)
  rw [ifT (by simpa using hkl),zF,hk,Option.bind_some,zK (by simp; omega),Option.bind_some,zK (by simp; omega),Option.bind_some,wkS k (by omega)]
  rfl) (fun out=>by
  simp only [vK]
  rw [ifF (by simp)]
  rfl)]
 simp
theorem gOk_rows {g:List (List Int)} (hg:gOk g=true):∀ p ∈ g,p.length≤1000000:=fun p hp=>by
 obtain ⟨i,hi,rfl⟩:=List.getElem_of_mem hp
 have:=(zX6 hg hi).1
 omega
theorem fromS_eq {g:List (List Int)} (hl0:g.length≤10000000) {list:List T_impl_Rec} (hl:list.length≤1000000000) (hx:∀ r ∈ list,r.Line.size≤1000000000):zG4 g list=some (frS g list):=by
 unfold zG4 frS
 rw [graphOkS_eq hl0,Option.bind_some]
 have h1:decide ((list.length:Int) > 4000)=!decide (list.length≤4000):=by
  by_cases q:list.length≤4000
  ·simp [q]; omega
  ·simp [q]; omega
 rw [h1,orO,Option.bind_some]
 cases hg:gOk g with
 | false=>rfl
 | true =>
  cases hd:decide (list.length≤4000) with
  | false=>rfl
  | true =>
   have hd':=of_decide_eq_true hd
   have hgl:=kV hg
   rw [if_neg (by simp),if_pos (by rfl),copyS_loop (by omega) (gOk_rows hg),Option.bind_some]
   unfold zH4
   rw [mkl_in (by omega) (by omega),Option.bind_some,show (g.length:Int).toNat=g.length by omega]
   obtain ⟨h2,h3⟩:=fromS_loop hgl hd' hx
   rw [h2,Option.bind_some]
   cases hr:jT (zC5 g.length) list ⟨-1,[],List.replicate g.length 0,[]⟩ with
   | none=>rfl
   | some s =>
    obtain ⟨i1,i2,i3,i4,i5⟩:=h3 s hr
    show uV list g s.bs=some (finR g list s.bs)
    have hsm:delsSm ⟨g,s.bs⟩:=⟨by show s.bs.length≤_; omega,fun b hb=>by have:=(i5 b hb).1; omega⟩
    unfold uV finR
    rw [RecordsS (by show g.length≤_; omega) hsm (fun b hb=>(i5 b hb).2),Option.bind_some]
    unfold recB
    cases hw:wOk ⟨g,s.bs⟩ with
    | false=>rfl
    | true =>
     rw [if_pos rfl]
     by_cases hn:(jD ⟨g,s.bs⟩).length > 4000
     ·rw [if_pos hn,show decide ((jD ⟨g,s.bs⟩).length≤4000)=false by simpa using hn]
      rfl
     ·rw [if_neg hn,show decide ((jD ⟨g,s.bs⟩).length≤4000)=true by simp; omega,sameS_eq (by simp only; omega)]
      cases eqQ (jD ⟨g,s.bs⟩) list <;> rfl
end Go.TV.F
namespace Go.TV.F
open Go.TV
def dSum (bs:List T_impl_Body):Nat:=kQ (fun b=>b.Dels.length) bs
theorem goR_len:∀ (bs:List T_impl_Body) (i:Int) (d:List Int),(goR i d bs).length≤d.length+2 * dSum bs+3 * bs.length+2
 | [],i,d=>by
  have:=qF4 i d (-1) []
  unfold goR
  simp only [List.length_nil] at this
  omega
 | b :: bs,i,d=>by
  have h1:=qF4 i d b.Ins b.Dels
  have ih:=goR_len bs b.Ins b.Dels
  have e2:dSum (b :: bs)=b.Dels.length+dSum bs:=rfl
  rw [goR_cons,List.length_append,List.length_cons,List.length_cons]
  omega
end Go.TV.F
namespace Go.TV.F
open Go.TV
theorem copyGraphI {g:List (List Int)} (hl:g.length≤1000000) (hx:∀ p ∈ g,p.length≤1000000):zP5 g=some g:=by
 unfold zP5
 rw [qL8 (body:=fun (s':Int×(List (List Int)))=>uM g s'.1 s'.2) g id id (by omega) (fun k x out hk hkl ho=>by
  simp only [uM,uI]
  have:=hx x (List.mem_of_getElem? hk)
  rw [ifT (by simpa using hkl),zF,hk,Option.bind_some,zK (by simp; omega),Option.bind_some,zK (by simp; omega),Option.bind_some,wkS k (by omega)]
  rfl) (fun out=>by
  simp only [uM]
  rw [ifF (by simp)]
  rfl)]
 simp [zM3]
end Go.TV.F
namespace Go.TV.F
open Go.TV
theorem index_eq {l:List Int} {v:Int} (hl:l.length≤1000000000):kP l v=some (xW (fun x=>v == x) l):=by
 unfold kP
 rw [fidx_loop l (fun x=>v == x) (fun k x hx hk=>by
  unfold jW
  rw [ifT (by simpa using hk),zF,hx]
  simp only [Option.bind_some,wkS k (by omega)]
  split <;> rfl) (by
  unfold jW
  rw [ifF (by simp)])]
 by_cases q:xW (fun x=>v == x) l = -1
 ·rw [if_pos q,q]
  rfl
 ·rw [if_neg q]
  rfl
theorem fidx_contains {l:List Int} {v:Int}:(0≤xW (fun x=>v == x) l)↔l.contains v=true:=by
 have h1:=qJ5 (fun x=>v == x) l
 have h2:=qH7 (fun x=>v == x) l
 rw [List.contains_iff_mem]
 constructor
 ·intro h
  by_cases hm:v ∈ l
  ·exact hm
  ·have:=h1.2 (fun x hx=>by
    rw [beq_eq_false_iff_ne]
    rintro rfl
    exact hm hx)
   omega
 ·intro h
  have:xW (fun x=>v == x) l≠-1:=fun q=>by
   have:=h1.1 q v h
   simp at this
  omega
theorem erase_fidx {v:Int}:∀ {l:List Int},0≤xW (fun x=>v == x) l→l.take (xW (fun x=>v == x) l).toNat++l.drop ((xW (fun x=>v == x) l).toNat+1)=l.erase v
 | [],h=>by simp [xW] at h
 | x :: l,h=>by
  have h2:=qH7 (fun x=>v == x) l
  unfold xW at h ⊢
  by_cases q:(v == x)=true
  ·rw [if_pos q] at h ⊢
   have:v=x:=by simpa using q
   subst this
   simp
  ·rw [if_neg q] at h ⊢
   split at h
   ·omega
   ·rename_i q2
    rw [if_neg q2]
    have hne:(x == v)=false:=by
     have:¬v=x:=by simpa using q
     simpa using fun e=>this e.symm
    have ht:(xW (fun x=>v == x) l+1).toNat=(xW (fun x=>v == x) l).toNat+1:=by omega
    rw [ht,List.take_succ_cons,List.drop_succ_cons,List.cons_append,erase_fidx (by omega),List.erase_cons,hne]
    rfl
theorem delete_eq {l:List Int} {v:Int} (hl:l.length≤1000000000) (h:0≤xW (fun x=>v == x) l):vQ l (xW (fun x=>v == x) l) (wk .i64 (xW (fun x=>v == x) l+1))=some (l.erase v):=by
 have h2:=fidx_lt (fun x=>v == x) l
 unfold vQ del1
 rw [if_pos (by omega),qM (by omega) (by omega),if_pos (by omega),show (xW (fun x=>v == x) l+1).toNat=(xW (fun x=>v == x) l).toNat+1 by omega,erase_fidx h]
theorem markI {o:T_impl_walker} {r:T_impl_Rec} (hl:o.dels.length≤1000000) :
  (∃ o',zE9 o r=some o'∧vY o r=some (true,o'))∨(zE9 o r=none∧∃ o',vY o r=some (false,o')):=by
 unfold vY zE9
 rw [index_eq (by omega),Option.bind_some]
 by_cases k2:(r.Kind == 2)=true
 ·rw [if_pos k2,if_pos k2]
  cases ho:o.open_ with
  | true=>exact .inr ⟨rfl,_,rfl⟩
  | false=>exact .inl ⟨_,rfl,rfl⟩
 rw [if_neg k2,if_neg k2]
 by_cases k3:(r.Kind == 3)=true
 ·rw [if_pos k3,if_pos k3,orO,Option.bind_some]
  cases ho:(!o.open_ || o.ins != r.Version) with
  | true=>exact .inr ⟨rfl,_,rfl⟩
  | false=>exact .inl ⟨_,rfl,rfl⟩
 rw [if_neg k3,if_neg k3]
 have hc:=fidx_contains (l:=o.dels) (v:=r.Version)
 by_cases k4:(r.Kind == 4)=true
 ·rw [if_pos k4,if_pos k4]
  by_cases q:o.dels.contains r.Version=true
  ·rw [if_pos q,if_pos (by simpa using hc.2 q)]
   exact .inr ⟨rfl,_,rfl⟩
  ·rw [if_neg q,if_neg (by simp only [decide_eq_true_eq]; exact fun z=>q (hc.1 z)),zK (by simp; omega)]
   exact .inl ⟨_,rfl,rfl⟩
 rw [if_neg k4,if_neg k4]
 by_cases k5:(r.Kind == 5)=true
 ·rw [if_pos k5,if_pos k5]
  by_cases q:o.dels.contains r.Version=true
  ·have:=hc.2 q
   rw [if_pos q,if_neg (by simp only [decide_eq_true_eq]; omega),delete_eq (by omega) this]
   exact .inl ⟨_,rfl,rfl⟩
  ·have:¬0≤xW (fun x=>r.Version == x) o.dels:=fun z=>q (hc.1 z)
   rw [if_neg q,if_pos (by simp only [decide_eq_true_eq]; omega)]
   exact .inr ⟨rfl,_,rfl⟩
 rw [if_neg k5,if_neg k5]
 by_cases k1:(r.Kind == 1)=true
 ·rw [if_pos k1,if_pos k1]
  cases ho:o.open_ with
  | true =>
   rw [if_pos rfl]
   refine .inl ⟨_,rfl,?_⟩
   rw [← ho]
  | false=>exact .inr ⟨rfl,_,rfl⟩
 rw [if_neg k1,if_neg k1]
 exact .inr ⟨rfl,_,rfl⟩
theorem markP_len {o o':T_impl_walker} {r:T_impl_Rec} (h:zE9 o r=some o'):o'.dels.length≤o.dels.length+1:=by
 unfold zE9 at h
 have he:(o.dels.erase r.Version).length≤o.dels.length:=List.length_erase_le
 repeat' split at h
 all_goals first
  | (injection h with h; subst h; (try dsimp only); (try simp only [List.length_append,List.length_singleton]); omega)
  | cases h
def FI (n k:Nat) (s:Fst):Prop:=s.o.dels.length≤k∧s.bs.length≤k∧s.born.length=n∧(∀ v,0≤s.born.getD v 0∧s.born.getD v 0≤k)∧∀ b ∈ s.bs,b.Dels.length≤k
noncomputable def frI (g:List (List Int)) (list:List T_impl_Rec):T_impl_Weave×Bool:=
 if (gOk g && decide (list.length≤4000))=true then fromR (fun s=>if (wOk ⟨g,s.bs⟩ && eqQ (jD ⟨g,s.bs⟩) list)=true then (⟨g,s.bs⟩,true) else w00) w00 (jT (jQ g.length) list ⟨⟨false,0,[]⟩,List.replicate g.length 0,[]⟩) else w00
theorem sortI_len (l:List Int):(sortI l).length=l.length:=List.length_mergeSort l
theorem fromI_loop {g:List (List Int)} (hg:g.length≤40) {list:List T_impl_Rec} (hl:list.length≤4000) :
  zC (fun (s':Int×(List T_impl_Body)×Bool×Int×(List Int)×(List Int))=>vJ g list s'.1 s'.2.1 s'.2.2.1 s'.2.2.2.1 s'.2.2.2.2.1 s'.2.2.2.2.2) (0,[],false,0,[],List.replicate g.length 0) =
   some (fromR (fun s=>.inr s.bs) (.inl w00) (jT (jQ g.length) list ⟨⟨false,0,[]⟩,List.replicate g.length 0,[]⟩))∧∀ s,jT (jQ g.length) list ⟨⟨false,0,[]⟩,List.replicate g.length 0,[]⟩=some s→FI g.length list.length s:=by
 change zC _ (((0:Nat):Int),([]:List T_impl_Body),false,(0:Int),([]:List Int),List.replicate g.length (0:Int))=_∧_
 refine run_loop (body:=fun (s':Int×(List T_impl_Body)×Bool×Int×(List Int)×(List Int))=>vJ g list s'.1 s'.2.1 s'.2.2.1 s'.2.2.2.1 s'.2.2.2.2.1 s'.2.2.2.2.2) (fun k (s:Fst)=>((k:Int),s.bs,s.o.open_,s.o.ins,s.o.dels,s.born)) list (jQ g.length) (FI g.length) (.inl w00) (fun s=>.inr s.bs) ⟨⟨false,0,[]⟩,List.replicate g.length 0,[]⟩
  ⟨by simp,by simp,by simp,fun v=>by rw [List.getD_eq_getElem?_getD,List.getElem?_replicate]; split <;> simp,fun b hb=>by cases hb⟩ (fun k r s hr hk hI=>?_) (fun s hI=>?_)
 ·obtain ⟨i1,i2,i3,i4,i5⟩:=hI
  simp only [vJ]
  rw [ifT (by simpa using hk),zF,hr,Option.bind_some]
  have hmk:∀ z,z=vY s.o r→vY (T_impl_walker.mk s.o.open_ s.o.ins s.o.dels) (T_impl_Rec.mk r.Kind r.Version r.Line)=z:=fun z e=>e.symm
  rcases markI (o:=s.o) (r:=r) (by omega) with ⟨o',h1,h2⟩ | ⟨h1,o',h2⟩
  ·have hlen:=markP_len h1
   rw [hmk _ h2.symm,Option.bind_some,if_neg (by simp)]
   simp only
   by_cases k1:(r.Kind == 1)=true
   ·have kn:(r.Kind != 1)=false:=by simp only [bne,k1,Bool.not_true]
    rw [if_neg (by rw [kn]; simp),isPlace_eq (by omega) (by omega),Option.bind_some]
    cases q:(decide (0≤o'.ins) && decide (o'.ins < (g.length:Int))) with
    | false =>
     right
     refine ⟨?_,rfl⟩
     unfold jQ
     rw [h1,Option.bind_some,if_pos k1,q]
     rfl
    | true =>
     left
     have q':=q
     simp only [Bool.and_eq_true,decide_eq_true_eq] at q'
     have hb:zI s.born o'.ins=some (s.born.getD o'.ins.toNat 0):=by rw [zP0 q'.1 (by omega),getD_in (by omega)]
     have hv:=i4 o'.ins.toNat
     refine ⟨⟨o',s.born.set o'.ins.toNat (s.born.getD o'.ins.toNat 0+1),s.bs++[⟨r.Line,o'.ins,s.born.getD o'.ins.toNat 0,sortI o'.dels⟩]⟩,?_,?_,?_⟩
     ·unfold jQ
      rw [h1,Option.bind_some,if_pos k1,q,if_pos rfl]
     ·have hsv:zN7 o'.dels=some o'.dels:=rfl
      have hso:zD4 o'.dels=some (sortI o'.dels):=by unfold zD4; rw [if_pos (by omega)]; rfl
      rw [if_neg (by simp),hb,Option.bind_some,hsv,Option.bind_some,hso,Option.bind_some,zK (by simp; omega),Option.bind_some,Option.bind_some,qM (x:=s.born.getD o'.ins.toNat 0+1) (by omega) (by omega),wkS k (by omega)]
     ·refine ⟨by show o'.dels.length≤_; omega,by show (s.bs++[_]).length≤_; rw [List.length_append,List.length_singleton]; omega,by show (s.born.set _ _).length=_; rw [List.length_set]; exact i3,fun v=>?_,fun b hb=>?_⟩
      ·show 0≤(s.born.set o'.ins.toNat (s.born.getD o'.ins.toNat 0+1)).getD v 0∧(s.born.set o'.ins.toNat (s.born.getD o'.ins.toNat 0+1)).getD v 0≤((k+1:Nat):Int)
       rw [qA5]
       have h1:=i4 v
       split <;> omega
      ·rcases List.mem_append.1 hb with hb | hb
       ·have:=i5 b hb
        omega
       ·obtain rfl:=List.mem_singleton.1 hb
        show (sortI o'.dels).length≤_
        rw [sortI_len]
        omega
   ·left
    have kn:(r.Kind != 1)=true:=by simp only [bne]; cases z:(r.Kind == 1) <;> simp_all
    refine ⟨⟨o',s.born,s.bs⟩,?_,?_,?_⟩
    ·unfold jQ
     rw [h1,Option.bind_some,if_neg k1]
    ·rw [if_pos kn,wkS k (by omega)]
    ·exact ⟨by show o'.dels.length≤_; omega,by show s.bs.length≤_; omega,i3,fun v=>⟨(i4 v).1,by have:=(i4 v).2; show s.born.getD v 0≤_; omega⟩,fun b hb=>by have:=i5 b hb; omega⟩
  ·right
   rw [hmk _ h2.symm,Option.bind_some,if_pos (by simp)]
   refine ⟨?_,rfl⟩
   unfold jQ
   rw [h1]
   rfl
 ·simp only [vJ]
  rw [ifF (by simp)]
theorem fromI_eq {g:List (List Int)} (hl0:g.length≤10000000) {list:List T_impl_Rec} (hl:list.length≤1000000000):zG3 g list=some (frI g list):=by
 unfold zG3 frI
 rw [graphOkI_eq hl0,Option.bind_some]
 have h1:decide ((list.length:Int) > 4000)=!decide (list.length≤4000):=by
  by_cases q:list.length≤4000
  ·simp [q]; omega
  ·simp [q]; omega
 rw [h1,orO,Option.bind_some]
 cases hd:decide (list.length≤4000) with
 | false =>
  cases hg:gOk g <;> rfl
 | true =>
  cases hg:gOk g with
  | false=>rfl
  | true =>
   have hd':=of_decide_eq_true hd
   have hgl:=kV hg
   rw [if_neg (by simp),if_pos (by rfl),copyGraphI (by omega) (gOk_rows hg),Option.bind_some,mkl_in (by omega) (by omega),Option.bind_some,show (g.length:Int).toNat=g.length by omega]
   obtain ⟨h2,h3⟩:=fromI_loop hgl hd'
   rw [h2,Option.bind_some]
   cases hr:jT (jQ g.length) list ⟨⟨false,0,[]⟩,List.replicate g.length 0,[]⟩ with
   | none=>rfl
   | some s =>
    obtain ⟨i1,i2,i3,i4,i5⟩:=h3 s hr
    show uU list g s.bs=some (if (wOk ⟨g,s.bs⟩ && eqQ (jD ⟨g,s.bs⟩) list)=true then (⟨g,s.bs⟩,true) else w00)
    have hsm:delsSm ⟨g,s.bs⟩:=⟨by show s.bs.length≤_; omega,fun b hb=>by have:=i5 b hb; omega⟩
    unfold uU
    rw [weaveOkI (w:=⟨g,s.bs⟩) (by show g.length≤_; omega) hsm.ok,Option.bind_some]
    cases hw:wOk ⟨g,s.bs⟩ with
    | false=>rfl
    | true =>
     rw [if_neg (by simp),recordsI hsm,Option.bind_some]
     have hlen:(jD ⟨g,s.bs⟩).length≤1000000000:=by
      have h5:=goR_len s.bs (-1) []
      have h6:dSum s.bs≤s.bs.length * 4000:=qA3 (fun b hb=>by have:=i5 b hb; omega)
      have h7:s.bs.length * 4000≤4000 * 4000:=Nat.mul_le_mul_right _ (by omega)
      show (goR (-1) [] s.bs).length≤_
      simp only [List.length_nil] at h5
      omega
     rw [equalI_eq hlen,Option.bind_some]
     cases eqQ (jD ⟨g,s.bs⟩) list <;> rfl
theorem frI_right {w:T_impl_Weave} (h:WR w) (hn:(jD w).length≤4000):frI w.Parents (jD w)=(w,true):=by
 unfold frI
 rw [if_pos (by rw [h.g]; simpa using hn)]
 obtain ⟨s,h1,h2,_⟩:=goR_run (g:=w.Parents) w.Bodies c0 (-1) [] ⟨false,0,[]⟩ (List.replicate w.Parents.length 0) [] h.o ⟨rfl,fun q=>by omega,List.nodup_nil,fun x=>Iff.rfl⟩ List.nodup_nil (by simp) (fun v hv=>by
  rw [List.getD_eq_getElem?_getD,List.getElem?_replicate,if_pos hv]
  rfl)
 have h1':jT (jQ w.Parents.length) (jD w) ⟨⟨false,0,[]⟩,List.replicate w.Parents.length 0,[]⟩=some s:=h1
 rw [h1']
 show (if (wOk ⟨w.Parents,s.bs⟩ && eqQ (jD ⟨w.Parents,s.bs⟩) (jD w))=true then ((⟨w.Parents,s.bs⟩:T_impl_Weave),true) else w00)=_
 rw [h2,List.nil_append,show (⟨w.Parents,w.Bodies⟩:T_impl_Weave)=w from rfl,wOk_iff.2 h,eqQ_iff.2 rfl]
 rfl
theorem frS_right {w:T_impl_Weave} (h:WR w) (hn:(jD w).length≤4000):frS w.Parents (jD w)=(w,true):=by
 unfold frS
 rw [if_pos (by rw [h.g]; simpa using hn)]
 have hgl:=kV h.g
 have hnb:=h.n
 obtain ⟨born,h1⟩:=goR_runS (g:=w.Parents) hgl w.Bodies c0 ⟨-1,[],List.replicate w.Parents.length 0,[]⟩ h.o ⟨List.Pairwise.nil,fun x hx=>(by cases hx),by simp⟩ (by simpa using hnb) (.inr rfl) (by simp) (fun v hv=>by
  show (List.replicate w.Parents.length (0:Int)).getD v 0=_
  rw [List.getD_eq_getElem?_getD,List.getElem?_replicate,if_pos hv]
  rfl)
 have h1':jT (zC5 w.Parents.length) (jD w) ⟨-1,[],List.replicate w.Parents.length 0,[]⟩=some ⟨-1,[],born,[]++w.Bodies⟩:=h1
 rw [h1']
 show finR w.Parents (jD w) ([]++w.Bodies)=_
 unfold finR
 rw [List.nil_append,show (⟨w.Parents,w.Bodies⟩:T_impl_Weave)=w from rfl,wOk_iff.2 h,eqQ_iff.2 rfl,if_pos (by simpa using hn)]
theorem frI_true {g:List (List Int)} {list:List T_impl_Rec} (h:(frI g list).2=true):WR (frI g list).1∧(frI g list).1.Parents=g∧jD (frI g list).1=list∧list.length≤4000:=by
 unfold frI at h ⊢
 split at h
 case isFalse=>cases h
 rename_i q
 rw [if_pos q]
 cases hr:jT (jQ g.length) list ⟨⟨false,0,[]⟩,List.replicate g.length 0,[]⟩ with
 | none=>rw [hr] at h; cases h
 | some s =>
  rw [hr] at h
  simp only [fromR] at h ⊢
  split at h
  case isFalse=>cases h
  rename_i q2
  rw [if_pos q2]
  simp only [Bool.and_eq_true,decide_eq_true_eq] at q q2
  exact ⟨wOk_iff.1 q2.1,rfl,eqQ_iff.1 q2.2,q.2⟩
theorem frS_true {g:List (List Int)} {list:List T_impl_Rec} (h:(frS g list).2=true):WR (frS g list).1∧(frS g list).1.Parents=g∧jD (frS g list).1=list∧list.length≤4000:=by
 unfold frS at h ⊢
 split at h
 case isFalse=>cases h
 rename_i q
 rw [if_pos q]
 cases hr:jT (zC5 g.length) list ⟨-1,[],List.replicate g.length 0,[]⟩ with
 | none=>rw [hr] at h; cases h
 | some s =>
  rw [hr] at h
  simp only [fromR,finR] at h ⊢
  split at h
  case isFalse=>cases h
  rename_i q2
  rw [if_pos q2]
  simp only [Bool.and_eq_true,decide_eq_true_eq] at q q2
  exact ⟨wOk_iff.1 q2.1,rfl,eqQ_iff.1 q2.2.2,q.2⟩
theorem frI_false {g:List (List Int)} {list:List T_impl_Rec} (h:(frI g list).2=false):frI g list=w00:=by
 unfold frI at h ⊢
 split
 ·rename_i q
  rw [if_pos q] at h
  cases hr:jT (jQ g.length) list ⟨⟨false,0,[]⟩,List.replicate g.length 0,[]⟩ with
  | none=>rfl
  | some s =>
   rw [hr] at h
   simp only [fromR] at h ⊢
   split at h
   ·cases h
   ·rename_i q2
    rw [if_neg q2]
 ·rfl
theorem frS_false {g:List (List Int)} {list:List T_impl_Rec} (h:(frS g list).2=false):frS g list=w00:=by
 unfold frS at h ⊢
 split
 ·rename_i q
  rw [if_pos q] at h
  cases hr:jT (zC5 g.length) list ⟨-1,[],List.replicate g.length 0,[]⟩ with
  | none=>rfl
  | some s =>
   rw [hr] at h
   simp only [fromR,finR] at h ⊢
   split at h
   ·cases h
   ·rename_i q2
    rw [if_neg q2]
 ·rfl
theorem fr_same (g:List (List Int)) (list:List T_impl_Rec):frI g list=frS g list:=by
 cases h1:(frI g list).2 with
 | true =>
  obtain ⟨a1,a2,a3,a4⟩:=frI_true h1
  have:=frS_right a1 (by rw [a3]; exact a4)
  rw [a2,a3] at this
  rw [this,← h1]
 | false =>
  cases h2:(frS g list).2 with
  | true =>
   obtain ⟨a1,a2,a3,a4⟩:=frS_true h2
   have:=frI_right a1 (by rw [a3]; exact a4)
   rw [a2,a3] at this
   rw [this] at h1
   cases h1
  | false=>rw [frI_false h1,frS_false h2]
end Go.TV.F
namespace Go.TV.F
open Go.TV
structure Kst where
 o:T_impl_walker
 out:List ByteArray
end Go.TV.F
namespace Go.TV.F
open Go.TV
theorem WR.dlen {w:T_impl_Weave} (h:WR w):∀ b ∈ w.Bodies,b.Dels.length≤40:=fun b hb=>by
 have hst:=qH8 h.o b hb
 have hgl:=kV h.g
 have hrise:rise b.Dels w.Parents.length=true:=by
  unfold stat at hst
  simp only [Bool.and_eq_true] at hst
  exact hst.1.2
 have:=rise_len (n:=w.Parents.length) hrise
 omega
theorem WR.dsm {w:T_impl_Weave} (h:WR w):delsSm w:=⟨by have:=h.n; omega,fun b hb=>by have:=h.dlen b hb; omega⟩
theorem WR.lsz {w:T_impl_Weave} (h:WR w):∀ b ∈ w.Bodies,b.Line.size≤60:=fun b hb=>by
 have:=h.line hb
 unfold uQ at this
 simp only [Bool.and_eq_true,decide_eq_true_eq] at this
 exact this.1
end Go.TV.F
namespace Go.TV.F
open Go.TV
theorem qI6 {σ τ ρ κ:Type} {f:σ→Option (σ⊕ρ)} {g:τ→Option (τ⊕κ)} (R:σ→τ→Prop) (m:σ→Nat) (Q:ρ→κ→Prop) {s:σ} {t:τ} (h0:R s t)
  (h:∀ s t,R s t→(∃ s' t',f s=some (.inl s')∧g t=some (.inl t')∧R s' t'∧m s' < m s)∨∃ r r',f s=some (.inr r)∧g t=some (.inr r')∧Q r r') :
  ∃ r r',zC f s=some r∧zC g t=some r'∧Q r r':=by
 have key:∀ n s t,R s t→m s=n→∃ r r',zC f s=some r∧zC g t=some r'∧Q r r':=by
  intro n
  induction n using Nat.strongRecOn with
  | _ n ih =>
   intro s t hs hm
   rw [zJ f,zJ g]
   rcases h s t hs with ⟨s',t',h1,h2,h3,h4⟩ | ⟨r,r',h1,h2,h3⟩
   ·rw [h1,h2]
    exact ih (m s') (by omega) s' t' h3 rfl
   ·rw [h1,h2]
    exact ⟨r,r',rfl,rfl,h3⟩
 exact key _ s t h0 rfl
theorem and32 {a b:Nat} (ha:a < 2 ^ 32) (hb:b < 2 ^ 32):bits .and .u32 a b=((a &&& b:Nat):Int):=(bits_nat .u32 32 (by decide) (fun n h0 h1=>wku32 h0 (by simpa using h1)) a b ha hb).1
theorem qI9 (a b:Nat):((a:Int)).tmod (b:Int)=((a % b:Nat):Int):=by
 rw [Int.tmod_eq_emod_of_nonneg (by omega)]
 rfl
theorem qL6 (a b:Nat):((a:Int)).tdiv (b:Int)=((a / b:Nat):Int):=by
 rw [Int.tdiv_eq_ediv_of_nonneg (by omega)]
 rfl
theorem shr32_1 (a:Nat):xL .u32 (a:Int) 1=((a / 2:Nat):Int):=by
 unfold xL
 simp [IntKind.bits]
def zS4 (x:Int):Prop:=0≤x∧x < 4294967296
theorem sum_l2 {x k:Int} (hx:zS4 x):yL x k=xE x k:=by
 obtain ⟨n,rfl⟩:∃ n:Nat,x=n:=⟨x.toNat,by have:=hx.1; omega⟩
 have hn:n < 2 ^ 32:=by have:=hx.2; omega
 unfold yL xE
 have e1:bits .and .u32 (n:Int) 1=((n:Int)).tmod 2:=by
  rw [show ((1:Int))=((1:Nat):Int) from rfl,and32 hn (by decide),show ((2:Int))=((2:Nat):Int) from rfl,qI9,Nat.and_one_is_mod]
 have e2:wk .u32 (((n:Int)).tdiv 2)=xL .u32 (n:Int) 1:=by
  rw [shr32_1,show ((2:Int))=((2:Nat):Int) from rfl,qL6,wku32 (by omega) (by omega)]
 rw [e1,e2]
theorem w32_xor (x y:Int):zS4 (bits .xor .u32 x y):=by
 unfold zS4
 show 0≤wk .u32 _∧wk .u32 _ < _
 rw [wku32_mod]
 omega
theorem w32_shr {x:Int} (hx:zS4 x):zS4 (xL .u32 x 1):=by
 obtain ⟨n,rfl⟩:∃ n:Nat,x=n:=⟨x.toNat,by have:=hx.1; omega⟩
 have:=hx.2
 rw [shr32_1]
 constructor <;> omega
theorem sum_inner {x:Int} (hx:zS4 x):∃ r,zC (fun (s':Int×Int)=>yL s'.1 s'.2) (x,0)=some r∧zC (fun (s':Int×Int)=>xE s'.1 s'.2) (x,0)=some r∧zS4 r:=by
 obtain ⟨r,r',h1,h2,h3,h4⟩:=qI6 (f:=fun (s':Int×Int)=>yL s'.1 s'.2) (g:=fun (s':Int×Int)=>xE s'.1 s'.2) (fun s t=>s=t∧zS4 s.1∧0≤s.2∧s.2≤8) (fun s=>(8 - s.2).toNat) (fun r r'=>r=r'∧zS4 r)
  (s:=(x,0)) (t:=(x,0)) ⟨rfl,hx,by simp,by simp⟩ (fun s t hs=>by
  obtain ⟨v,k⟩:=s
  obtain ⟨rfl,hv,h0,h8⟩:=hs
  simp only at hv h0 h8 ⊢
  rw [← sum_l2 hv]
  unfold yL
  by_cases q:k < 8
  ·rw [ifT (by simpa using q),qM (x:=k+1) (by omega) (by omega)]
   split
   ·exact .inl ⟨_,_,rfl,rfl,⟨rfl,w32_xor _ _,by simp only; omega,by simp only; omega⟩,by simp only; omega⟩
   ·exact .inl ⟨_,_,rfl,rfl,⟨rfl,w32_shr hv,by simp only; omega,by simp only; omega⟩,by simp only; omega⟩
  ·rw [ifF (by simpa using q)]
   exact .inr ⟨_,_,rfl,rfl,rfl,hv⟩)
 subst h3
 exact ⟨r,h1,h2,h4⟩
theorem sidx_in {s:ByteArray} {k:Nat} (h:k < s.size):∃ b:Nat,sidx s (k:Int)=some (b:Int)∧b < 256:=by
 unfold sidx
 rw [if_neg (by omega),Int.toNat_natCast,if_pos h]
 exact ⟨_,rfl,UInt8.toNat_lt _⟩
theorem sumMore_eq {x:Int} (hx:zS4 x) {text:ByteArray} (ht:text.size≤1000000000):∃ r,zU6 x text=some r∧zO8 x text=some r∧zS4 r:=by
 unfold zU6 zO8
 obtain ⟨r,r',h1,h2,h3,h4⟩:=qI6 (f:=fun (s':Int×Int)=>zJ7 text s'.1 s'.2) (g:=fun (s':Int×Int)=>xY text s'.1 s'.2) (fun s t=>s=t∧zS4 s.1∧0≤s.2∧s.2≤text.size) (fun s=>(text.size - s.2).toNat) (fun r r'=>r=r'∧zS4 r)
  (s:=(x,0)) (t:=(x,0)) ⟨rfl,hx,by simp,by simp⟩ (fun s t hs=>by
  obtain ⟨v,k⟩:=s
  obtain ⟨rfl,hv,h0,h8⟩:=hs
  simp only at hv h0 h8 ⊢
  obtain ⟨k,rfl⟩:∃ n:Nat,k=n:=⟨k.toNat,by omega⟩
  unfold zJ7 xY
  by_cases q:k < text.size
  ·rw [ifT (by simpa using q),ifT (by simpa using q)]
   obtain ⟨b,hb,_⟩:=sidx_in q
   rw [hb,Option.bind_some,Option.bind_some]
   obtain ⟨z,g1,g2,g3⟩:=sum_inner (w32_xor v (wk .u32 (b:Int)))
   rw [g1,g2,Option.bind_some,Option.bind_some]
   unfold zS3 zK0
   rw [qM (by omega) (by omega)]
   exact .inl ⟨_,_,rfl,rfl,⟨rfl,g3,by simp only; omega,by simp only; omega⟩,by simp only; omega⟩
  ·rw [ifF (by simpa using q),ifF (by simpa using q)]
   exact .inr ⟨_,_,rfl,rfl,rfl,hv⟩)
 subst h3
 rw [h1,h2]
 exact ⟨r,rfl,rfl,h4⟩
theorem sumOf_eq {text:ByteArray} (ht:text.size≤1000000000):∃ r,zW0 text=some r∧vL text=some r∧zS4 r:=by
 obtain ⟨r,h1,h2,h3⟩:=sumMore_eq (x:=4294967295) ⟨by decide,by decide⟩ ht
 refine ⟨r,?_,?_,h3⟩
 ·unfold zW0
  rw [h1]
  rfl
 ·unfold vL
  rw [h2]
  rfl
end Go.TV.F
namespace Go.TV.F
open Go.TV
theorem subL_in {s:ByteArray} {lo:Int} (h0:0≤lo) (h:lo≤s.size):subL s lo=some (s.extract lo.toNat s.size):=by
 unfold subL
 rw [if_neg (by omega),if_pos (by omega)]
theorem subH_in {s:ByteArray} {hi:Int} (h0:0≤hi) (h:hi≤s.size):subH s hi=some (s.extract 0 hi.toNat):=by
 unfold subH
 rw [if_neg (by omega),if_pos (by omega)]
theorem qH4 {s:ByteArray} {lo hi:Int} (h0:0≤lo) (h1:lo≤hi) (h:hi≤s.size):sub2 s lo hi=some (s.extract lo.toNat hi.toNat):=by
 unfold sub2
 rw [if_neg (by omega),if_neg (by omega),if_pos (by omega)]
theorem unsealed_eq {text:ByteArray} (ht:text.size≤1000000000):∃ t ok,zI4 text=some (t,ok)∧zD3 text=some (t,ok)∧t.size≤60000:=by
 unfold zI4 zD3
 rw [qM (x:=(text.size:Int) - 4) (by omega) (by omega)]
 by_cases q:(text.size:Int) - 4 < 0
 ·rw [ifT (by simpa using q)]
  exact ⟨_,_,rfl,rfl,by decide⟩
 rw [ifF (by simpa using q)]
 simp only [Option.bind_some]
 by_cases q2:(text.size:Int) - 4 > 60000
 ·have q2':decide ((text.size:Int) - 4 > 60000)=true:=by simpa using q2
  rw [q2']
  exact ⟨_,_,rfl,rfl,by decide⟩
 have q2':decide ((text.size:Int) - 4 > 60000)=false:=by simpa using q2
 rw [q2']
 simp only [Bool.false_eq_true,if_false]
 rw [subL_in (by omega) (by omega),subH_in (by omega) (by omega)]
 simp only [Option.bind_some]
 have hsz:(text.extract 0 ((text.size:Int) - 4).toNat).size≤60000:=by
  rw [ByteArray.size_extract]
  omega
 obtain ⟨r,h1,h2,h3⟩:=sumOf_eq (text:=text.extract 0 ((text.size:Int) - 4).toNat) (by omega)
 unfold uJ kT
 rw [h1,h2]
 simp only [Option.bind_some]
 generalize mkS _=u
 generalize text.extract ((text.size:Int) - 4).toNat text.size=v
 have e:(!(u.toList == v.toList))=(!(v.toList == u.toList)):=by
  rw [Bool.beq_comm]
 rw [e]
 split
 ·exact ⟨_,_,rfl,rfl,by decide⟩
 ·exact ⟨_,_,rfl,rfl,hsz⟩
end Go.TV.F
namespace Go.TV.F
open Go.TV
def zB6 (n:Nat):List Nat:=if h:n≤127 then [n] else (n % 128+128) :: zB6 (n / 128)
termination_by n
decreasing_by omega
def yI:List Nat→Nat
 | []=>0
 | c :: l=>c % 128+128 * yI l
theorem zV8 {n:Nat} (h:n≤127):zB6 n=[n]:=by rw [zB6,dif_pos h]
theorem qD9 {n:Nat} (h:¬n≤127):zB6 n=(n % 128+128) :: zB6 (n / 128):=by rw [zB6,dif_neg h]
theorem valL_enc:∀ n:Nat,yI (zB6 n)=n:=by
 intro n
 induction n using Nat.strongRecOn with
 | _ n ih =>
  by_cases h:n≤127
  ·rw [zV8 h]
   simp only [yI]
   omega
  ·rw [qD9 h,yI,ih (n / 128) (by omega)]
   omega
theorem valL_snoc (l:List Nat) (c:Nat):yI (l++[c])=yI l+c % 128 * 128 ^ l.length:=by
 induction l with
 | nil=>simp [yI]
 | cons x l ih =>
  rw [List.cons_append,yI,ih,yI,List.length_cons,Nat.pow_succ,Nat.mul_add]
  have:128 * (c % 128 * 128 ^ l.length)=c % 128 * (128 ^ l.length * 128):=by
   rw [Nat.mul_comm,Nat.mul_assoc]
  omega
theorem valL_lt (l:List Nat):yI l < 128 ^ l.length:=by
 induction l with
 | nil=>simp [yI]
 | cons x l ih =>
  rw [yI,List.length_cons,Nat.pow_succ]
  omega
theorem valL_pos {l:List Nat} {c:Nat} (h0:c≠0) (h1:c < 128):0 < yI (l++[c]):=by
 rw [valL_snoc,Nat.mod_eq_of_lt h1]
 have:=Nat.pow_pos (n:=l.length) (show 0 < 128 by decide)
 have:=Nat.mul_pos (Nat.pos_of_ne_zero h0) this
 omega
theorem qN1:∀ (l:List Nat) {c:Nat},c≠0→c < 128→(∀ x ∈ l,128≤x∧x < 256)→zB6 (yI (l++[c]))=l++[c]
 | [],c,_,h1,_=>by
  have e:yI ([]++[c])=c:=by simp only [List.nil_append,yI]; omega
  rw [e,zV8 (by omega)]
  rfl
 | x :: l,c,h0,h1,hl=>by
  have hx:=hl x (by simp)
  have hp:=valL_pos (l:=l) h0 h1
  have ih:=qN1 l h0 h1 (fun y hy=>hl y (by simp [hy]))
  rw [List.cons_append,yI,qD9 (by omega)]
  have e1:(x % 128+128 * yI (l++[c])) % 128+128=x:=by omega
  have e2:(x % 128+128 * yI (l++[c])) / 128=yI (l++[c]):=by omega
  rw [e1,e2,ih]
theorem enc_last0:∀ (n:Nat) (l:List Nat),zB6 n=l++[0]→l=[]:=by
 intro n
 induction n using Nat.strongRecOn with
 | _ n ih =>
  intro l h
  by_cases q:n≤127
  ·rw [zV8 q] at h
   cases l with
   | nil=>rfl
   | cons x l =>
    have:=congrArg List.length h
    simp at this
  ·rw [qD9 q] at h
   cases l with
   | nil=>rfl
   | cons x l =>
    rw [List.cons_append] at h
    injection h with h1 h2
    have e:=ih (n / 128) (by omega) l h2
    subst e
    have:=congrArg yI h2
    rw [valL_enc] at this
    simp only [List.nil_append,yI] at this
    omega
theorem enc_val {l:List Nat} {c:Nat} (h1:c < 128) (hl:∀ x ∈ l,128≤x∧x < 256):zB6 (yI (l++[c]))=l++[c]↔¬(c=0∧l≠[]):=by
 constructor
 ·rintro h ⟨rfl,hn⟩
  exact hn (enc_last0 _ _ h)
 ·intro h
  by_cases h0:c=0
  ·have:l=[]:=by
    by_cases q:l=[]
    ·exact q
    ·exact absurd ⟨h0,q⟩ h
   subst this
   subst h0
   rw [show yI ([]++[0])=0 from rfl,zV8 (by omega)]
   rfl
  ·exact qN1 l h0 h1 hl
theorem encL_byte:∀ (n:Nat) (x:Nat),x ∈ zB6 n→x < 256:=by
 intro n
 induction n using Nat.strongRecOn with
 | _ n ih =>
  intro x hx
  by_cases q:n≤127
  ·rw [zV8 q] at hx
   simp at hx
   omega
  ·rw [qD9 q] at hx
   rcases List.mem_cons.1 hx with rfl | h
   ·omega
   ·exact ih (n / 128) (by omega) x h
end Go.TV.F
namespace Go.TV.F
open Go.TV
def zA4 (n:Nat):ByteArray:=mkS ((zB6 n).map fun x:Nat=>(x:Int))
theorem nb_encS (n:Nat):nb (zA4 n)=zB6 n:=nb_mkS (encL_byte n)
theorem var_loop:∀ (n:Nat) (out:List Int),out.length+n≤68719476736→∃ (c:Int) (o:List Int),zC (fun (s':Int×(List Int))=>zO9 s'.1 s'.2) ((n:Int),out)=some (c,o)∧0≤c∧c≤127∧o++[c]=out++(zB6 n).map (fun x:Nat=>(x:Int))∧o.length≤68719476736:=by
 intro n
 induction n using Nat.strongRecOn with
 | _ n ih =>
  intro out h
  rw [zJ]
  simp only [zO9]
  by_cases q:n≤127
  ·rw [ifF (by simp; omega)]
   refine ⟨_,_,rfl,by omega,by omega,?_,by omega⟩
   rw [zV8 q]
   rfl
  ·rw [ifT (by simp; omega),show (128:Int)=((128:Nat):Int) from rfl,qI9,qL6,qM (x:=((n % 128:Nat):Int)+((128:Nat):Int)) (by omega) (by omega),wku8 (by omega) (by omega),zK (by simp; omega)]
   simp only [Option.bind_some,List.append_eq]
   rw [qM (x:=((n / 128:Nat):Int)) (by omega) (by omega)]
   obtain ⟨c,o,h1,h2,h3,h4,h5⟩:=ih (n / 128) (by omega) (out++[((n % 128:Nat):Int)+((128:Nat):Int)]) (by simp; omega)
   refine ⟨c,o,h1,h2,h3,?_,h5⟩
   rw [h4,qD9 q]
   simp
theorem zV0 {n:Nat} (h:n≤34359738368):wE (n:Int)=some (zA4 n):=by
 unfold wE
 obtain ⟨c,o,h1,h2,h3,h4,h5⟩:=var_loop n [] (by simp; omega)
 rw [h1]
 simp only [Option.bind_some]
 unfold zW5
 rw [wku8 h2 (by omega),zK (by simp; omega),Option.bind_some,h4]
 rfl
end Go.TV.F
namespace Go.TV.F
open Go.TV
theorem qH0 {text:ByteArray} (ht:text.size≤1000000000) {a:Nat} (ha:a≤text.size):∃ (n next:Nat) (ok:Bool),zU5 text (a:Int)=some ((n:Int),(next:Int),ok)∧zN1 text (a:Int)=some ((n:Int),(next:Int),ok) ∧
  n≤1000000000∧(ok=true→a < next∧next≤text.size∧((nb text).drop a).take (next - a)=zB6 n):=by
 unfold zU5 zN1
 rw [ifF (by simp)]
 simp only [Option.bind_some]
 rw [ifF (by simp; omega)]
 have hin:xS (a:Int) 0 (text.size:Int)=some true:=by
  unfold xS
  rw [ifT (by simp)]
  simp
  omega
 rw [hin,Option.bind_some,ifF (by simp)]
 have hnl:=zQ9 text
 obtain ⟨r,r',h1,h2,h3⟩:=qI6 (f:=fun (s':Int×Int×Int)=>zJ9 text (a:Int) s'.1 s'.2.1 s'.2.2) (g:=fun (s':Int×Int×Int)=>zJ4 text (a:Int) s'.1 s'.2.1 s'.2.2)
  (fun s t=>∃ k:Nat,k≤5∧a+k≤text.size∧s=(((yI (((nb text).drop a).take k):Nat):Int),((128 ^ k:Nat):Int),(k:Int))∧t=(((yI (((nb text).drop a).take k):Nat):Int),((128 ^ k:Nat):Int),((a+k:Nat):Int))∧∀ x ∈ ((nb text).drop a).take k,128≤x∧x < 256)
  (fun s=>(5 - s.2.2).toNat) (fun r r'=>r=r'∧(r=.inr ()∨r=.inl (0,0,false)∨∃ n next:Nat,r=.inl ((n:Int),(next:Int),true)∧n≤1000000000∧a < next∧next≤text.size∧((nb text).drop a).take (next - a)=zB6 n))
  (s:=(0,1,0)) (t:=(0,1,(a:Int))) ⟨0,by omega,by omega,by simp [yI],by simp [yI],by simp⟩ (fun s t hs=>by
  obtain ⟨k,hk5,hks,rfl,rfl,hall⟩:=hs
  simp only
  unfold zJ9 zJ4
  have e1:wk .i64 ((a:Int)+(k:Int))=((a+k:Nat):Int):=by rw [qM (by omega) (by omega)]; omega
  have e2:wk .i64 ((a:Int)+5)=((a+5:Nat):Int):=by rw [qM (by omega) (by omega)]; omega
  rw [e1,e2]
  have c1:(if decide ((k:Int) < 5)=true then some (decide (((a+k:Nat):Int) < (text.size:Int))) else some false)=some (decide (k < 5∧a+k < text.size)):=by
   by_cases q:k < 5
   ·rw [ifT (by simp; omega)]
    congr 1
    simp [q]
    omega
   ·rw [ifF (by simp; omega)]
    simp [q]
  have c2:(if decide (((a+k:Nat):Int) < (text.size:Int))=true then some (decide (((a+k:Nat):Int) < ((a+5:Nat):Int))) else some false)=some (decide (k < 5∧a+k < text.size)):=by
   by_cases q:a+k < text.size
   ·rw [ifT (by simp; omega)]
    congr 1
    simp [q]
    omega
   ·rw [ifF (by simp; omega)]
    simp [q]
  rw [c1,c2]
  simp only [Option.bind_some]
  by_cases q:k < 5∧a+k < text.size
  ·obtain ⟨q1,q2⟩:=q
   rw [ifT (by simp [q1,q2]),ifT (by simp [q1,q2])]
   obtain ⟨b,g1,g2,g3⟩:=sidx_nb q2
   rw [g1]
   simp only [Option.bind_some]
   have hb:wk .i64 (b:Int)=(b:Int):=qM (by omega) (by omega)
   rw [hb]
   have hpw:128 ^ k≤128 ^ 4:=Nat.pow_le_pow_right (by omega) (by omega)
   have hpw':128 ^ k≤268435456:=by simpa using hpw
   have hlen:(((nb text).drop a).take k).length=k:=by simp; omega
   have hval:=valL_lt (((nb text).drop a).take k)
   rw [hlen] at hval
   have hmul:b % 128 * 128 ^ k≤127 * 268435456:=Nat.mul_le_mul (by omega) hpw'
   obtain ⟨M,hM⟩:∃ M,M=b % 128 * 128 ^ k:=⟨_,rfl⟩
   rw [← hM] at hmul
   have e3:wk .i64 (((b:Int)).tmod 128 * ((128 ^ k:Nat):Int))=(M:Int):=by
    rw [show (128:Int)=((128:Nat):Int) from rfl,qI9,← Int.natCast_mul,← hM,qM (by omega) (by omega)]
   have htk:((nb text).drop a).take (k+1)=((nb text).drop a).take k++[b]:=by
    rw [List.take_add_one,List.getElem?_drop,g2]
    rfl
   have hv1:yI (((nb text).drop a).take (k+1))=yI (((nb text).drop a).take k)+M:=by
    rw [htk,valL_snoc,hlen,← hM]
   have e4:wk .i64 (((yI (((nb text).drop a).take k):Nat):Int)+(M:Int))=((yI (((nb text).drop a).take (k+1)):Nat):Int):=by
    rw [hv1,qM (by omega) (by omega)]
    omega
   have e5:wk .i64 (((128 ^ k:Nat):Int) * 128)=((128 ^ (k+1):Nat):Int):=by
    rw [qM (by omega) (by omega),Nat.pow_succ]
    omega
   have e6:wk .i64 ((k:Int)+1)=((k+1:Nat):Int):=by rw [qM (by omega) (by omega)]; omega
   have e7:wk .i64 (((a+k:Nat):Int)+1)=((a+(k+1):Nat):Int):=by rw [qM (by omega) (by omega)]; omega
   simp only [e3,e4,e5,e6,e7]
   obtain ⟨v,hv⟩:∃ v,v=yI (((nb text).drop a).take (k+1)):=⟨_,rfl⟩
   rw [← hv] at hv1 ⊢
   have hvb:v≤34359738368:=by omega
   by_cases qb:b < 128
   ·have d0:decide ((b:Int)≥128)=false:=decide_eq_false (by omega)
    have d0':decide ((b:Int) < 128)=true:=decide_eq_true (by omega)
    simp only [d0,d0',Bool.false_eq_true,if_false,if_true]
    have hcan:=enc_val (l:=((nb text).drop a).take k) qb hall
    rw [← htk,← hv] at hcan
    have hsub:sub2 text (a:Int) ((a+(k+1):Nat):Int)=some (text.extract a (a+(k+1))):=by
     rw [qH4 (by omega) (by omega) (by omega)]
     rfl
    have hne:(((nb text).drop a).take k≠[])↔k > 0:=by
     rw [← List.length_pos_iff,hlen]
    have d2:(if ((b:Int) == 0)=true then some (decide ((k:Int) > 0)) else some false)=some (decide (b=0∧k > 0)):=by
     by_cases qz:b=0
     ·rw [ifT (by simp [qz]),show decide (b=0∧k > 0)=decide ((k:Int) > 0) from by simp [qz]]
     ·rw [ifF (by simpa using qz)]
      simp [qz]
    rw [d2]
    simp only [Option.bind_some]
    by_cases qn:v > 1000000000
    ·have d1:decide ((v:Int) > 1000000000)=true:=decide_eq_true (by omega)
     refine .inr ⟨.inl (0,0,false),.inl (0,0,false),?_,?_,rfl,.inr (.inl rfl)⟩
     ·by_cases q0:b=0∧k > 0
      ·simp only [decide_eq_true q0,d1,if_true,Option.bind_some]
      ·simp only [decide_eq_false q0,d1,if_true,if_false,Bool.false_eq_true,Option.bind_some]
     ·simp only [d1,if_true,Option.bind_some]
    ·have d1:decide ((v:Int) > 1000000000)=false:=decide_eq_false (by omega)
     simp only [d1,Bool.false_eq_true,if_false]
     rw [zV0 hvb]
     simp only [Option.bind_some]
     rw [hsub]
     simp only [Option.bind_some]
     rw [beq_nb,nb_encS,zQ6,show a+(k+1) - a=k+1 by omega]
     by_cases q0:b=0∧k > 0
     ·have hc:¬zB6 v=((nb text).drop a).take (k+1):=fun h=>(hcan.1 h) ⟨q0.1,hne.2 q0.2⟩
      simp only [decide_eq_true q0,decide_eq_false hc,if_true,Option.bind_some,Bool.not_false]
      exact .inr ⟨_,_,rfl,rfl,rfl,.inr (.inl rfl)⟩
     ·have hc:=hcan.2 (fun h=>q0 ⟨h.1,hne.1 h.2⟩)
      simp only [decide_eq_false q0,decide_eq_true hc,Bool.false_eq_true,if_false,Option.bind_some,Bool.not_true]
      refine .inr ⟨_,_,rfl,rfl,rfl,.inr (.inr ⟨_,_,rfl,by omega,by omega,by omega,?_⟩)⟩
      rw [show a+(k+1) - a=k+1 by omega]
      exact hc.symm
   ·have d0:decide ((b:Int)≥128)=true:=decide_eq_true (by omega)
    have d0':decide ((b:Int) < 128)=false:=decide_eq_false (by omega)
    simp only [d0,d0',Bool.false_eq_true,if_false,if_true]
    refine .inl ⟨_,_,rfl,rfl,⟨k+1,by omega,by omega,by rw [← hv],by rw [← hv],?_⟩,?_⟩
    ·intro x hx
     rw [htk] at hx
     rcases List.mem_append.1 hx with hx | hx
     ·exact hall x hx
     ·simp at hx
      omega
    ·simp only
     omega
  ·rw [ifF (by simpa using q),ifF (by simpa using q)]
   exact .inr ⟨_,_,rfl,rfl,rfl,.inl rfl⟩)
 obtain ⟨rfl,h4⟩:=h3
 rw [h1,h2]
 rcases h4 with rfl | rfl | ⟨n,next,rfl,g1,g2,g3,g4⟩
 ·exact ⟨0,0,false,rfl,rfl,by omega,fun h=>by cases h⟩
 ·exact ⟨0,0,false,rfl,rfl,by omega,fun h=>by cases h⟩
 ·exact ⟨n,next,true,rfl,rfl,g1,fun _=>⟨g2,g3,g4⟩⟩
end Go.TV.F
namespace Go.TV.F
open Go.TV
def seg (text:ByteArray) (a b:Nat):List Nat:=((nb text).drop a).take (b - a)
theorem seg_self (text:ByteArray) (a:Nat):seg text a a=[]:=by simp [seg]
theorem seg_app {text:ByteArray} {a b c:Nat} (h1:a≤b) (h2:b≤c):seg text a b++seg text b c=seg text a c:=by
 unfold seg
 rw [show c - a=(b - a)+(c - b) by omega,List.take_add,List.drop_drop]
 congr 3
 omega
theorem seg_extract (text:ByteArray) (a b:Nat):nb (text.extract a b)=seg text a b:=zQ6 text a b
structure Sim (text:ByteArray) (s:T_impl_scanner) (c:T_spec_l08Cur):Prop where
 st:s.text=text
 ct:c.text=text
 bad:s.bad=c.bad
 at_:∃ a b:Nat,s.at_=a∧c.at_=b∧a≤text.size∧b≤text.size∧(s.bad=false→a=b)
def Rd (text:ByteArray) (s s':T_impl_scanner) (l:List Nat):Prop:=∃ a b:Nat,s.at_=a∧s'.at_=b∧a≤b∧b≤text.size∧seg text a b=l
theorem Rd.trans {text:ByteArray} {s1 s2 s3:T_impl_scanner} {l m:List Nat} (h:Rd text s1 s2 l) (k:Rd text s2 s3 m):Rd text s1 s3 (l++m):=by
 obtain ⟨a,b,h1,h2,h3,h4,h5⟩:=h
 obtain ⟨b',c,k1,k2,k3,k4,k5⟩:=k
 have:b=b':=by omega
 subst this
 exact ⟨a,c,h1,k2,by omega,k4,by rw [← seg_app h3 k3,h5,k5]⟩
theorem Rd.refl {text:ByteArray} {s:T_impl_scanner} {a:Nat} (h:s.at_=a) (h2:a≤text.size):Rd text s s []:=⟨a,a,h,h,Nat.le_refl _,h2,seg_self text a⟩
section
variable {text:ByteArray} (ht:text.size≤60000)
theorem num_sim (ht:text.size≤60000) {s:T_impl_scanner} {c:T_spec_l08Cur} (h:Sim text s c):∃ (n:Nat) (s':T_impl_scanner) (m:Nat),qA s=some ((n:Int),s')∧n≤1000000000∧(s'.bad=true→n=0) ∧
  (∀ most:Nat,most≤1000000000→∃ c',jF c (most:Int)=some (((if n≤most then n else 0:Nat):Int),c')∧(n≤most→Sim text s' c')∧(¬n≤most→c'.bad=true∧c'.text=text∧∃ b:Nat,c'.at_=b∧b≤text.size)) ∧
  (∃ a:Nat,s'.at_=a∧a≤text.size)∧s'.text=text∧(s'.bad=false→s.bad=false∧Rd text s s' (zB6 n)):=by
 obtain ⟨st,sa,sb⟩:=s
 obtain ⟨ct,ca,cb⟩:=c
 obtain ⟨h1,h2,h3,a,b,h4,h5,h6,h7,h8⟩:=h
 simp only at h1 h2 h3 h4 h5 h8
 subst h3 h4 h5
 obtain rfl:ct=st:=h2.trans h1.symm
 subst h1
 obtain ⟨n,next,ok,g1,g2,g3,g4⟩:=qH0 (text:=ct) (by omega) h6
 cases sb with
 | true =>
  refine ⟨0,⟨ct,a,true⟩,0,?_,by omega,fun _=>rfl,?_,⟨a,rfl,h6⟩,rfl,fun h=>by cases h⟩
  ·unfold qA
   simp only [g1,Option.bind_some,if_true]
   rfl
  ·intro most hm
   obtain ⟨n',next',ok',g1',g2',g3',g4'⟩:=qH0 (text:=ct) (by omega) h7
   refine ⟨⟨ct,b,true⟩,?_,fun _=>⟨rfl,rfl,rfl,a,b,rfl,rfl,h6,h7,fun h=>by cases h⟩,fun h=>by omega⟩
   unfold jF
   simp only [g2',Option.bind_some,if_true]
   simp
 | false =>
  have hab:=h8 rfl
  subst hab
  cases ok with
  | false =>
   refine ⟨0,⟨ct,a,true⟩,0,?_,by omega,fun _=>rfl,?_,⟨a,rfl,h6⟩,rfl,fun h=>by cases h⟩
   ·unfold qA
    simp only [g1,Option.bind_some,Bool.false_eq_true,if_false,Bool.not_false,if_true]
    rfl
   ·intro most hm
    refine ⟨⟨ct,a,true⟩,?_,fun _=>⟨rfl,rfl,rfl,a,a,rfl,rfl,h6,h6,fun h=>by cases h⟩,fun h=>by omega⟩
    unfold jF
    simp only [g2,Option.bind_some,Bool.false_eq_true,if_false,Bool.not_false,if_true]
    simp
  | true =>
   obtain ⟨g5,g6,g7⟩:=g4 rfl
   refine ⟨n,⟨ct,next,false⟩,0,?_,g3,(fun h=>by cases h),?_,⟨next,rfl,g6⟩,rfl,fun _=>⟨rfl,a,next,rfl,rfl,by omega,g6,g7⟩⟩
   ·unfold qA
    simp only [g1,Option.bind_some,Bool.false_eq_true,if_false,Bool.not_true]
   ·intro most hm
    unfold jF
    simp only [g2,Option.bind_some,Bool.false_eq_true,if_false,Bool.not_true]
    by_cases q:n≤most
    ·have d:decide ((n:Int) > (most:Int))=false:=decide_eq_false (by omega)
     simp only [d,Bool.false_eq_true,if_false,if_pos q]
     exact ⟨_,rfl,fun _=>⟨rfl,rfl,rfl,next,next,rfl,rfl,g6,g6,fun _=>rfl⟩,fun h=>absurd q h⟩
    ·have d:decide ((n:Int) > (most:Int))=true:=decide_eq_true (by omega)
     simp only [d,if_true,if_neg q]
     exact ⟨_,rfl,fun h=>absurd h q,fun _=>⟨rfl,rfl,a,rfl,h6⟩⟩
theorem number_sim (ht:text.size≤60000) {s:T_impl_scanner} {c:T_spec_l08Cur} (h:Sim text s c):∃ (n:Nat) (s':T_impl_scanner) (c':T_spec_l08Cur),qA s=some ((n:Int),s')∧jF c 1000000000=some ((n:Int),c')∧Sim text s' c'∧n≤1000000000 ∧
  (s'.bad=false→s.bad=false∧Rd text s s' (zB6 n)):=by
 obtain ⟨n,s',_,h1,h2,h3,h4,h5,h6,h7⟩:=num_sim ht h
 obtain ⟨c',g1,g2,g3⟩:=h4 1000000000 (by omega)
 rw [if_pos h2] at g1
 exact ⟨n,s',c',h1,g1,g2 h2,h2,h7⟩
theorem qJ8 (ht:text.size≤60000) {s:T_impl_scanner} {c:T_spec_l08Cur} (h:Sim text s c) {most:Nat} (hm:most≤1000000000):∃ (n:Nat) (s':T_impl_scanner) (c':T_spec_l08Cur),kH s (most:Int)=some ((n:Int),s')∧jF c (most:Int)=some ((n:Int),c')∧Sim text s' c'∧n≤most ∧
  (s'.bad=false→s.bad=false∧Rd text s s' (zB6 n)):=by
 obtain ⟨n,s',_,h1,h2,h3,h4,⟨a,h5,h5'⟩,h6,h7⟩:=num_sim ht h
 obtain ⟨c',g1,g2,g3⟩:=h4 most hm
 unfold kH
 rw [show T_impl_scanner.mk s.text s.at_ s.bad=s from rfl,h1]
 simp only [Option.bind_some]
 by_cases q:n≤most
 ·have d:decide ((n:Int) > (most:Int))=false:=decide_eq_false (by omega)
  rw [if_pos q] at g1
  simp only [d,Bool.false_eq_true,if_false]
  exact ⟨n,s',c',rfl,g1,g2 q,q,h7⟩
 ·have d:decide ((n:Int) > (most:Int))=true:=decide_eq_true (by omega)
  rw [if_neg q] at g1
  obtain ⟨k1,k2,b,k3,k4⟩:=g3 q
  simp only [d,if_true]
  exact ⟨0,_,c',rfl,g1,⟨h6,k2,k1.symm,a,b,h5,k3,h5',k4,fun h=>by cases h⟩,by omega,fun h=>by cases h⟩
theorem take_sim (ht:text.size≤60000) {s:T_impl_scanner} {c:T_spec_l08Cur} (h:Sim text s c) {n:Nat} (hn:n≤1000000000):∃ (t:ByteArray) (s':T_impl_scanner) (c':T_spec_l08Cur),zS s (n:Int)=some (t,s')∧jC c (n:Int)=some (t,c')∧Sim text s' c' ∧
  (s'.bad=false→s.bad=false∧t.size=n∧Rd text s s' (nb t))∧(s.bad=true→t=ByteArray.mk #[])∧(∀ a:Nat,s.at_=a→n+a≤text.size→s.bad=false→s'.bad=false∧s'.at_=((a+n:Nat):Int)∧t=text.extract a (a+n))∧(∀ a:Nat,s.at_=a→¬n+a≤text.size→t=ByteArray.mk #[]∧s'.bad=true):=by
 obtain ⟨st,sa,sb⟩:=s
 obtain ⟨ct,ca,cb⟩:=c
 obtain ⟨h1,h2,h3,a,b,h4,h5,h6,h7,h8⟩:=h
 simp only at h1 h2 h3 h4 h5 h8
 subst h3 h4 h5
 obtain rfl:ct=st:=h2.trans h1.symm
 subst h1
 have bi:zS ⟨ct,(a:Int),true⟩ (n:Int)=some (ByteArray.mk #[],⟨ct,(a:Int),true⟩):=by
  unfold zS
  simp only [if_true,Option.bind_some]
 have bs:jC ⟨ct,(b:Int),true⟩ (n:Int)=some (ByteArray.mk #[],⟨ct,(b:Int),true⟩):=by
  unfold jC
  simp only [if_true,Option.bind_some]
 cases sb with
 | true =>
  rw [bi,bs]
  exact ⟨_,_,_,rfl,rfl,⟨rfl,rfl,rfl,a,b,rfl,rfl,h6,h7,fun h=>by cases h⟩,(fun h=>by cases h),(fun _=>rfl),(fun _ _ _ h=>by cases h),fun _ _ _=>⟨rfl,rfl⟩⟩
 | false =>
  have hab:=h8 rfl
  subst hab
  have e1:wk .i64 ((ct.size:Int) - (a:Int))=((ct.size - a:Nat):Int):=by rw [qM (by omega) (by omega)]; omega
  by_cases q:n+a≤ct.size
  ·have d:decide ((n:Int) > ((ct.size - a:Nat):Int))=false:=decide_eq_false (by omega)
   have e2:wk .i64 ((a:Int)+(n:Int))=((a+n:Nat):Int):=by rw [qM (by omega) (by omega)]; omega
   have e3:wk .i64 (((a+n:Nat):Int) - (n:Int))=(a:Int):=by rw [qM (by omega) (by omega)]; omega
   have hi:zS ⟨ct,(a:Int),false⟩ (n:Int)=some (ct.extract a (a+n),⟨ct,((a+n:Nat):Int),false⟩):=by
    unfold zS
    simp only [e1,d,e2,e3,Bool.false_eq_true,if_false,Option.bind_some]
    rw [qH4 (by omega) (by omega) (by omega)]
    rfl
   have hs:jC ⟨ct,(a:Int),false⟩ (n:Int)=some (ct.extract a (a+n),⟨ct,((a+n:Nat):Int),false⟩):=by
    unfold jC
    simp only [e1,d,e2,e3,Bool.false_eq_true,if_false,Option.bind_some]
    rw [qH4 (by omega) (by omega) (by omega)]
    rfl
   rw [hi,hs]
   refine ⟨_,_,_,rfl,rfl,⟨rfl,rfl,rfl,a+n,a+n,rfl,rfl,by omega,by omega,fun _=>rfl⟩,fun _=>⟨rfl,?_,a,a+n,rfl,rfl,by omega,by omega,(seg_extract ct a (a+n)).symm⟩,(fun h=>by cases h),?_,?_⟩
   ·rw [ByteArray.size_extract]
    omega
   ·intro a' ha' _ _
    have:a=a':=by simp only at ha'; omega
    subst this
    exact ⟨rfl,rfl,rfl⟩
   ·intro a' ha' hq
    have:a=a':=by simp only at ha'; omega
    subst this
    exact absurd q hq
  ·have d:decide ((n:Int) > ((ct.size - a:Nat):Int))=true:=decide_eq_true (by omega)
   have hi:zS ⟨ct,(a:Int),false⟩ (n:Int)=some (ByteArray.mk #[],⟨ct,(a:Int),true⟩):=by
    unfold zS
    simp only [e1,d,Bool.false_eq_true,if_false,if_true,Option.bind_some]
   have hs:jC ⟨ct,(a:Int),false⟩ (n:Int)=some (ByteArray.mk #[],⟨ct,(a:Int),true⟩):=by
    unfold jC
    simp only [e1,d,Bool.false_eq_true,if_false,if_true,Option.bind_some]
   rw [hi,hs]
   refine ⟨_,_,_,rfl,rfl,⟨rfl,rfl,rfl,a,a,rfl,rfl,h6,h6,fun h=>by cases h⟩,(fun h=>by cases h),(fun h=>by cases h),?_,fun _ _ _=>⟨rfl,rfl⟩⟩
   intro a' ha' hq _
   have:a=a':=by simp only at ha'; omega
   subst this
   exact absurd hq q
theorem short_sim (ht:text.size≤60000) {s:T_impl_scanner} {c:T_spec_l08Cur} (h:Sim text s c):∃ (t:ByteArray) (s':T_impl_scanner) (c':T_spec_l08Cur),kI s=some (t,s')∧uO c=some (t,c')∧Sim text s' c'∧t.size≤60000 ∧
  (s'.bad=false→s.bad=false∧Rd text s s' (zB6 t.size++nb t)):=by
 obtain ⟨st,sa,sb⟩:=s
 obtain ⟨ct,ca,cb⟩:=c
 obtain ⟨h1,h2,h3,a,b,h4,h5,h6,h7,h8⟩:=h
 simp only at h1 h2 h3 h4 h5 h8
 subst h3 h4 h5
 obtain rfl:ct=st:=h2.trans h1.symm
 subst h1
 obtain ⟨n,next,ok,g1,g2,g3,g4⟩:=qH0 (text:=ct) (by omega) h6
 have es:(ByteArray.mk #[]).size≤60000:=by decide
 cases sb with
 | true =>
  obtain ⟨n',next',ok',g1',g2',g3',g4'⟩:=qH0 (text:=ct) (by omega) h7
  refine ⟨ByteArray.mk #[],⟨ct,a,true⟩,⟨ct,b,true⟩,?_,?_,⟨rfl,rfl,rfl,a,b,rfl,rfl,h6,h7,fun h=>by cases h⟩,es,fun h=>by cases h⟩
  ·unfold kI qA
   simp only [g1,Option.bind_some,if_true]
   rw [ifF (by simp)]
   unfold xX zS
   simp only [if_true,Option.bind_some]
  ·unfold uO zF8
   simp only [g2',Option.bind_some,if_true]
   cases ok' with
   | false=>simp only [Bool.not_false,if_true,Option.bind_some]
   | true =>
    obtain ⟨g5,g6,g7⟩:=g4' rfl
    simp only [Bool.not_true,Bool.false_eq_true,if_false,Option.bind_some]
    have e1:wk .i64 ((ct.size:Int) - (next':Int))=((ct.size - next':Nat):Int):=by rw [qM (by omega) (by omega)]; omega
    have e2:wk .i64 ((next':Int)+(n':Int))=((next'+n':Nat):Int):=by rw [qM (by omega) (by omega)]; omega
    rw [e1,e2]
    by_cases q:n' > 60000∨n'+next' > ct.size
    ·have d:(if decide ((n':Int) > 60000)=true then some true else some (decide ((n':Int) > ((ct.size - next':Nat):Int))))=some true:=by
      by_cases q1:n' > 60000
      ·rw [ifT (by simp; omega)]
      ·rw [ifF (by simp; omega),decide_eq_true (by omega)]
     rw [d]
     simp only [Option.bind_some,if_true]
    ·have d:(if decide ((n':Int) > 60000)=true then some true else some (decide ((n':Int) > ((ct.size - next':Nat):Int))))=some false:=by
      rw [ifF (by simp; omega),decide_eq_false (by omega)]
     rw [d]
     simp only [Option.bind_some,Bool.false_eq_true,if_false]
     rw [qH4 (by omega) (by omega) (by omega)]
     simp only [Option.bind_some,if_true]
 | false =>
  have hab:=h8 rfl
  subst hab
  cases ok with
  | false =>
   refine ⟨ByteArray.mk #[],⟨ct,a,true⟩,⟨ct,a,true⟩,?_,?_,⟨rfl,rfl,rfl,a,a,rfl,rfl,h6,h7,fun h=>by cases h⟩,es,fun h=>by cases h⟩
   ·unfold kI qA
    simp only [g1,Option.bind_some,Bool.false_eq_true,if_false,Bool.not_false,if_true]
    rw [ifF (by simp)]
    unfold xX zS
    simp only [if_true,Option.bind_some]
   ·unfold uO zF8
    simp only [g2,Option.bind_some,if_true,Bool.not_false,Bool.false_eq_true,if_false]
  | true =>
   obtain ⟨g5,g6,g7⟩:=g4 rfl
   have e1:wk .i64 ((ct.size:Int) - (next:Int))=((ct.size - next:Nat):Int):=by rw [qM (by omega) (by omega)]; omega
   have e2:wk .i64 ((next:Int)+(n:Int))=((next+n:Nat):Int):=by rw [qM (by omega) (by omega)]; omega
   have e3:wk .i64 (((next+n:Nat):Int) - (n:Int))=(next:Int):=by rw [qM (by omega) (by omega)]; omega
   have hi:kI ⟨ct,(a:Int),false⟩=if n > 60000∨n+next > ct.size then some (ByteArray.mk #[],⟨ct,(next:Int),true⟩) else some (ct.extract next (next+n),⟨ct,((next+n:Nat):Int),false⟩):=by
    unfold kI qA
    simp only [g1,Option.bind_some,Bool.false_eq_true,if_false,Bool.not_true]
    unfold xX zS
    by_cases q1:n > 60000
    ·rw [ifT (by simp; omega),if_pos (c:=n > 60000∨n+next > ct.size) (.inl q1)]
     simp only [if_true,Option.bind_some]
    ·rw [ifF (by simp; omega)]
     simp only [Bool.false_eq_true,if_false,Option.bind_some,e1,e2,e3]
     by_cases q2:n+next > ct.size
     ·rw [decide_eq_true (by omega),if_pos (c:=n > 60000∨n+next > ct.size) (.inr q2)]
      simp only [if_true,Option.bind_some]
     ·rw [decide_eq_false (by omega),if_neg (c:=n > 60000∨n+next > ct.size) (by omega)]
      simp only [Bool.false_eq_true,if_false]
      rw [qH4 (by omega) (by omega) (by omega)]
      rfl
   have hs:uO ⟨ct,(a:Int),false⟩=if n > 60000∨n+next > ct.size then some (ByteArray.mk #[],⟨ct,(a:Int),true⟩) else some (ct.extract next (next+n),⟨ct,((next+n:Nat):Int),false⟩):=by
    unfold uO zF8
    simp only [g2,Option.bind_some,Bool.false_eq_true,if_false,Bool.not_true,e1,e2]
    by_cases q1:n > 60000∨n+next > ct.size
    ·have d:(if decide ((n:Int) > 60000)=true then some true else some (decide ((n:Int) > ((ct.size - next:Nat):Int))))=some true:=by
      by_cases q1:n > 60000
      ·rw [ifT (by simp; omega)]
      ·rw [ifF (by simp; omega),decide_eq_true (by omega)]
     rw [d,if_pos (c:=n > 60000∨n+next > ct.size) q1]
     simp only [Option.bind_some,if_true,Bool.not_false]
    ·have d:(if decide ((n:Int) > 60000)=true then some true else some (decide ((n:Int) > ((ct.size - next:Nat):Int))))=some false:=by
      rw [ifF (by simp; omega),decide_eq_false (by omega)]
     rw [d,if_neg (c:=n > 60000∨n+next > ct.size) q1]
     simp only [Option.bind_some,Bool.false_eq_true,if_false]
     rw [qH4 (by omega) (by omega) (by omega)]
     simp only [Option.bind_some,Bool.not_true,Bool.false_eq_true,if_false]
     rfl
   rw [hi,hs]
   by_cases q:n > 60000∨n+next > ct.size
   ·rw [if_pos q,if_pos q]
    exact ⟨_,_,_,rfl,rfl,⟨rfl,rfl,rfl,next,a,rfl,rfl,g6,h6,fun h=>by cases h⟩,es,fun h=>by cases h⟩
   ·rw [if_neg q,if_neg q]
    have hsz:(ct.extract next (next+n)).size=n:=by rw [ByteArray.size_extract]; omega
    refine ⟨_,_,_,rfl,rfl,⟨rfl,rfl,rfl,next+n,next+n,rfl,rfl,by omega,by omega,fun _=>rfl⟩,by omega,fun _=>⟨rfl,?_⟩⟩
    rw [hsz,seg_extract]
    refine Rd.trans (s2:=⟨ct,next,false⟩) ⟨a,next,rfl,rfl,by omega,g6,g7⟩ ⟨next,next+n,rfl,rfl,by omega,by omega,rfl⟩
end
end Go.TV.F
namespace Go.TV.F
open Go.TV
theorem items_sim {text:ByteArray} {α:Type} {I:T_impl_scanner→Option (α×T_impl_scanner)} {G:T_spec_l08Cur→Option (α×T_spec_l08Cur)} (enc:α→List Nat) (P P2:α→Prop)
  (hit:∀ s c,Sim text s c→∃ x s' y c',I s=some (x,s')∧G c=some (y,c')∧Sim text s' c'∧P2 y∧(s'.bad=false→x=y∧P x∧s.bad=false∧Rd text s s' (enc x)))
  {n:Nat} {f:Int×ByteArray×Int×Bool×List α→Option ((Int×ByteArray×Int×Bool×List α)⊕(ByteArray×Int×Bool×List α))} {g:Int×ByteArray×Int×Bool×List α→Option ((Int×ByteArray×Int×Bool×List α)⊕(ByteArray×Int×Bool×List α))}
  (hf:∀ (k:Nat) (t:ByteArray) (a:Int) (b:Bool) (out:List α),k < n→out.length=k→f ((k:Int),t,a,b,out)=(I ⟨t,a,b⟩).bind fun r=>some (.inl (((k+1:Nat):Int),r.2.text,r.2.at_,r.2.bad,out++[r.1])))
  (hf0:∀ (t:ByteArray) (a:Int) (b:Bool) (out:List α),f ((n:Int),t,a,b,out)=some (.inr (t,a,b,out)))
  (hg:∀ (k:Nat) (t:ByteArray) (a:Int) (out:List α),k < n→out.length=k→g ((k:Int),t,a,false,out)=(G ⟨t,a,false⟩).bind fun r=>some (.inl (((k+1:Nat):Int),r.2.text,r.2.at_,r.2.bad,out++[r.1])))
  (hg0:∀ (k:Nat) (t:ByteArray) (a:Int) (out:List α),k≤n→g ((k:Int),t,a,true,out)=some (.inr (t,a,true,out)))
  (hg1:∀ (t:ByteArray) (a:Int) (b:Bool) (out:List α),g ((n:Int),t,a,b,out)=some (.inr (t,a,b,out)))
  {s:T_impl_scanner} {c:T_spec_l08Cur} (h:Sim text s c) :
  ∃ s' l c' l',zC f (0,s.text,s.at_,s.bad,[])=some (s'.text,s'.at_,s'.bad,l)∧zC g (0,c.text,c.at_,c.bad,[])=some (c'.text,c'.at_,c'.bad,l')∧Sim text s' c'∧l'.length≤n∧(∀ y ∈ l',P2 y) ∧
   (s'.bad=false→l=l'∧s.bad=false∧l.length=n∧(∀ x ∈ l,P x)∧Rd text s s' (l.map enc).flatten):=by
 have badrun:∀ (m k:Nat) (s:T_impl_scanner) (out:List α),k+m=n→out.length=k→s.bad=true→(∃ c,Sim text s c)→∃ s' l,zC f ((k:Int),s.text,s.at_,s.bad,out)=some (s'.text,s'.at_,s'.bad,l)∧s'.bad=true∧∃ c',Sim text s' c':=by
  intro m
  induction m with
  | zero =>
   intro k s out hk ho hb hc
   have:k=n:=by omega
   subst this
   rw [zJ,hf0]
   exact ⟨s,out,rfl,hb,hc⟩
  | succ m ih =>
   intro k s out hk ho hb ⟨c,hc⟩
   obtain ⟨x,s',y,c',h1,h2,h3,_,h4⟩:=hit s c hc
   have hb':s'.bad=true:=by
    cases q:s'.bad with
    | true=>rfl
    | false =>
     have:=(h4 q).2.2.1
     rw [hb] at this
     cases this
   rw [zJ,hf k _ _ _ _ (by omega) ho,show T_impl_scanner.mk s.text s.at_ s.bad=s from rfl,h1]
   simp only [Option.bind_some]
   exact ih (k+1) s' (out++[x]) (by omega) (by simp [ho]) hb' ⟨c',h3⟩
 have simBad:∀ {s1:T_impl_scanner} {c1 c2:T_spec_l08Cur} {s2:T_impl_scanner},Sim text s1 c1→Sim text s2 c2→s1.bad=true→s2.bad=true→Sim text s1 c2:=by
  intro s1 c1 c2 s2 h1 h2 b1 b2
  obtain ⟨a1,b1',q1,q2,q3,q4,q5⟩:=h1.at_
  obtain ⟨a2,b2',r1,r2,r3,r4,r5⟩:=h2.at_
  exact ⟨h1.st,h2.ct,by rw [b1,← h2.bad,b2],a1,b2',q1,r2,q3,r4,fun h=>by rw [b1] at h; cases h⟩
 have main:∀ (m k:Nat) (s:T_impl_scanner) (c:T_spec_l08Cur) (out:List α),k+m=n→out.length=k→Sim text s c→s.bad=false→(∀ x ∈ out,P x)→(∀ x ∈ out,P2 x)→∃ s' l c' l',zC f ((k:Int),s.text,s.at_,s.bad,out)=some (s'.text,s'.at_,s'.bad,l)∧zC g ((k:Int),c.text,c.at_,c.bad,out)=some (c'.text,c'.at_,c'.bad,l')∧Sim text s' c'∧l'.length≤n∧(∀ y ∈ l',P2 y) ∧
   (s'.bad=false→l=l'∧l.length=n∧(∀ x ∈ l,P x)∧∃ l2,l=out++l2∧Rd text s s' (l2.map enc).flatten):=by
  intro m
  induction m with
  | zero =>
   intro k s c out hk ho hs hb hP hP2
   have:k=n:=by omega
   subst this
   rw [zJ,hf0,zJ,hg1]
   obtain ⟨a1,b1',q1,q2,q3,q4,q5⟩:=hs.at_
   exact ⟨s,out,c,out,rfl,rfl,hs,by omega,hP2,fun _=>⟨rfl,ho,hP,[],by simp,Rd.refl q1 q3⟩⟩
  | succ m ih =>
   intro k s c out hk ho hs hb hP hP2
   have hcb:c.bad=false:=by rw [← hs.bad,hb]
   obtain ⟨x,s',y,c',h1,h2,h3,hy2,h4⟩:=hit s c hs
   have hP2':∀ z ∈ out++[y],P2 z:=fun z hz=>by
    rcases List.mem_append.1 hz with hz | hz
    ·exact hP2 z hz
    ·simp at hz
     subst hz
     exact hy2
   rw [zJ,hf k _ _ _ _ (by omega) ho,show T_impl_scanner.mk s.text s.at_ s.bad=s from rfl,h1]
   rw [zJ,hcb,hg k _ _ _ (by omega) ho,show T_spec_l08Cur.mk c.text c.at_ false=c from by cases c with | mk t a b=>simp only at hcb; rw [hcb],h2]
   simp only [Option.bind_some]
   cases q:s'.bad with
   | true =>
    have hcb':c'.bad=true:=by rw [← h3.bad,q]
    obtain ⟨s2,l,g1,g2,c2,g3⟩:=badrun m (k+1) s' (out++[x]) (by omega) (by simp [ho]) q ⟨c',h3⟩
    rw [q] at g1
    rw [g1,hcb',zJ,hg0 (k+1) _ _ _ (by omega)]
    refine ⟨s2,l,c',out++[y],rfl,by rw [hcb']; rfl,simBad g3 h3 g2 q,by simp; omega,hP2',fun h=>?_⟩
    rw [g2] at h
    cases h
   | false =>
    obtain ⟨rfl,hPx,_,hr⟩:=h4 q
    obtain ⟨s2,l,c2,l2,g1,g2,g3,g5,g6,g4⟩:=ih (k+1) s' c' (out++[x]) (by omega) (by simp [ho]) h3 q (fun z hz=>by
     rcases List.mem_append.1 hz with hz | hz
     ·exact hP z hz
     ·simp at hz
      subst hz
      exact hPx) hP2'
    rw [q] at g1
    rw [g1,g2]
    refine ⟨s2,l,c2,l2,rfl,rfl,g3,g5,g6,fun h=>?_⟩
    obtain ⟨k1,k2,k3,l3,k4,k5⟩:=g4 h
    refine ⟨k1,k2,k3,x :: l3,by rw [k4]; simp,?_⟩
    rw [List.map_cons,List.flatten_cons]
    exact hr.trans k5
 cases hb:s.bad with
 | true =>
  have hcb:c.bad=true:=by rw [← h.bad,hb]
  obtain ⟨s',l,h1,h2,c',h3⟩:=badrun n 0 s [] (by omega) rfl hb ⟨c,h⟩
  rw [hb] at h1
  have:=hg0 0 c.text c.at_ [] (by omega)
  refine ⟨s',l,c,[],h1,?_,simBad h3 h h2 hb,by simp,(fun _ h=>by cases h),fun q=>?_⟩
  ·rw [hcb,zJ]
   have e:((0:Nat):Int)=0:=rfl
   rw [e] at this
   rw [this]
   rfl
  ·rw [h2] at q
   cases q
 | false =>
  obtain ⟨s',l,c',l',h1,h2,h3,h5,h6,h4⟩:=main n 0 s c [] (by omega) rfl h hb (fun _ h=>by cases h) (fun _ h=>by cases h)
  rw [hb] at h1
  refine ⟨s',l,c',l',h1,h2,h3,h5,h6,fun q=>?_⟩
  obtain ⟨k1,k2,k3,l3,k4,k5⟩:=h4 q
  rw [List.nil_append] at k4
  subst k4
  exact ⟨k1,rfl,k2,k3,k5⟩
end Go.TV.F
namespace Go.TV.F
open Go.TV
def BB:Nat:=1000000000000000
end Go.TV.F
namespace Go.TV.F
open Go.TV
theorem qF8 (s:ByteArray):ByteArray.mk #[]++s=s:=by
 apply ByteArray.ext
 rw [ByteArray.data_append]
 simp
theorem qJ6 (s:ByteArray):s++ByteArray.mk #[]=s:=by
 apply ByteArray.ext
 rw [ByteArray.data_append]
 simp
theorem qJ7 (s t u:ByteArray):s++t++u=s++(t++u):=by
 apply ByteArray.ext
 simp only [ByteArray.data_append,Array.append_assoc]
def cat:List ByteArray→ByteArray
 | []=>ByteArray.mk #[]
 | s :: l=>s++cat l
theorem cat_app (l m:List ByteArray):cat (l++m)=cat l++cat m:=by
 induction l with
 | nil=>simp [cat,qF8]
 | cons s l ih=>simp [cat,ih,qJ7]
theorem cat_one (s:ByteArray):cat [s]=s:=by simp [cat,qJ6]
theorem zZ4 {l:List ByteArray} {M:Nat} (h:∀ x ∈ l,x.size≤M):(cat l).size≤l.length * M:=by
 induction l with
 | nil=>exact Nat.zero_le _
 | cons s l ih =>
  have h1:=h s (by simp)
  have h2:=ih (fun x hx=>h x (by simp [hx]))
  simp only [cat,ByteArray.size_append,List.length_cons,Nat.add_mul]
  omega
theorem cat_take {α:Type} {l:List α} {f:α→ByteArray} {k:Nat} (hk:k < l.length):cat ((l.take (k+1)).map f)=cat ((l.take k).map f)++f l[k]:=by
 rw [List.take_add_one,List.getElem?_eq_getElem hk,List.map_append,cat_app]
 simp only [Option.toList_some,List.map_cons,List.map_nil,cat_one]
theorem qK5 {α:Type} {l:List α} {f:α→ByteArray} {M:Nat} {body:Int×ByteArray→Option ((Int×ByteArray)⊕ByteArray)} {b0:ByteArray} (hb:b0.size+l.length * M≤400000000) (hf:∀ x ∈ l,(f x).size≤M)
  (hs:∀ (i:Nat) (x:α) (b:ByteArray),l[i]? = some x→x ∈ l→b.size+M≤400000000→body ((i:Int),b)=some (.inl (((i+1:Nat):Int),b++f x)))
  (he:∀ b:ByteArray,body ((l.length:Int),b)=some (.inr b)):zC body (0,b0)=some (b0++cat (l.map f)):=by
 have h0:(0,b0)=((((0:Nat):Int),b0++cat ((l.take 0).map f)):Int×ByteArray):=by simp [cat,qJ6]
 rw [h0]
 refine uW (fun k=>((k:Int),b0++cat ((l.take k).map f))) l.length (fun k hk=>?_) (by rw [he,List.take_length])
 have hsz:(cat ((l.take k).map f)).size≤k * M:=by
  have:=zZ4 (l:=(l.take k).map f) (M:=M) (fun x hx=>by
   obtain ⟨y,hy,rfl⟩:=List.mem_map.1 hx
   exact hf y (List.mem_of_mem_take hy))
  rw [List.length_map,List.length_take,Nat.min_eq_left (by omega)] at this
  exact this
 have hkM:(k+1) * M≤l.length * M:=Nat.mul_le_mul_right _ hk
 rw [Nat.add_mul,Nat.one_mul] at hkM
 rw [hs k l[k] _ (List.getElem?_eq_getElem hk) (List.getElem_mem hk) (by rw [ByteArray.size_append]; omega),cat_take hk,qJ7]
theorem acc_loop2 {α:Type} {l:List α} {f:α→ByteArray} {M:Nat} {body:ByteArray×Int→Option ((ByteArray×Int)⊕ByteArray)} {b0:ByteArray} (hb:b0.size+l.length * M≤400000000) (hf:∀ x ∈ l,(f x).size≤M)
  (hs:∀ (i:Nat) (x:α) (b:ByteArray),l[i]? = some x→x ∈ l→b.size+M≤400000000→body (b,(i:Int))=some (.inl (b++f x,((i+1:Nat):Int))))
  (he:∀ b:ByteArray,body (b,(l.length:Int))=some (.inr b)):zC body (b0,0)=some (b0++cat (l.map f)):=by
 have h0:(b0,0)=((b0++cat ((l.take 0).map f),((0:Nat):Int)):ByteArray×Int):=by simp [cat,qJ6]
 rw [h0]
 refine uW (fun k=>(b0++cat ((l.take k).map f),(k:Int))) l.length (fun k hk=>?_) (by rw [he,List.take_length])
 have hsz:(cat ((l.take k).map f)).size≤k * M:=by
  have:=zZ4 (l:=(l.take k).map f) (M:=M) (fun x hx=>by
   obtain ⟨y,hy,rfl⟩:=List.mem_map.1 hx
   exact hf y (List.mem_of_mem_take hy))
  rw [List.length_map,List.length_take,Nat.min_eq_left (by omega)] at this
  exact this
 have hkM:(k+1) * M≤l.length * M:=Nat.mul_le_mul_right _ hk
 rw [Nat.add_mul,Nat.one_mul] at hkM
 rw [hs k l[k] _ (List.getElem?_eq_getElem hk) (List.getElem_mem hk) (by rw [ByteArray.size_append]; omega),cat_take hk,qJ7]
theorem encL_len5:∀ (k n:Nat),n < 128 ^ (k+1)→(zB6 n).length≤k+1
 | 0,n,h=>by rw [zV8 (by simpa using Nat.le_of_lt_succ h)]; simp
 | k+1,n,h=>by
  by_cases q:n≤127
  ·rw [zV8 q]
   simp
  ·rw [qD9 q]
   have:=encL_len5 k (n / 128) (by rw [Nat.pow_succ] at h; exact Nat.div_lt_of_lt_mul (by rw [Nat.mul_comm]; exact h))
   simp
   exact this
theorem xO {n:Nat} (h:n≤1000000000):(zA4 n).size≤5:=by
 rw [← zQ9,nb_encS]
 exact encL_len5 4 n (by omega)
theorem var_loopI:∀ (n:Nat) (out:List Int),out.length+n≤68719476736→∃ (c:Int) (o:List Int),zC (fun (s':Int×(List Int))=>zJ1 s'.1 s'.2) ((n:Int),out)=some (c,o)∧0≤c∧c≤127∧o++[c]=out++(zB6 n).map (fun x:Nat=>(x:Int))∧o.length≤68719476736:=by
 intro n
 induction n using Nat.strongRecOn with
 | _ n ih =>
  intro out h
  rw [zJ]
  simp only [zJ1]
  by_cases q:n≤127
  ·rw [ifF (by simp; omega)]
   refine ⟨_,_,rfl,by omega,by omega,?_,by omega⟩
   rw [zV8 q]
   rfl
  ·rw [ifT (by simp; omega),show (128:Int)=((128:Nat):Int) from rfl,qI9,qL6,qM (x:=((128:Nat):Int)+((n % 128:Nat):Int)) (by omega) (by omega),wku8 (by omega) (by omega),zK (by simp; omega)]
   simp only [Option.bind_some,List.append_eq]
   rw [qM (x:=((n / 128:Nat):Int)) (by omega) (by omega)]
   obtain ⟨c,o,h1,h2,h3,h4,h5⟩:=ih (n / 128) (by omega) (out++[((128:Nat):Int)+((n % 128:Nat):Int)]) (by simp; omega)
   refine ⟨c,o,h1,h2,h3,?_,h5⟩
   rw [h4,qD9 q]
   simp
   omega
theorem zW2 {n:Nat} (h:n≤34359738368):yS (n:Int)=some (zA4 n):=by
 unfold yS
 obtain ⟨c,o,h1,h2,h3,h4,h5⟩:=var_loopI n [] (by simp; omega)
 rw [h1]
 simp only [Option.bind_some]
 unfold zS8
 rw [wku8 h2 (by omega),zK (by simp; omega),Option.bind_some,h4]
 rfl
def shS (s:ByteArray):ByteArray:=zA4 s.size++s
theorem shS_size {s:ByteArray} (h:s.size≤1000000000):(shS s).size≤5+s.size:=by
 have:=xO h
 unfold shS
 rw [ByteArray.size_append]
 omega
theorem shortI_eq {s:ByteArray} (h:s.size≤1000000000):zM6 s=some (shS s):=by
 have:=xO h
 unfold zM6
 rw [zW2 (by omega),Option.bind_some,uL (by omega)]
 rfl
theorem qE2 {b x:ByteArray} (h:b.size+x.size≤549755813888):zN b x=some (b++x):=by
 unfold zN
 rw [if_pos h]
end Go.TV.F
namespace Go.TV.F
open Go.TV
def At (text:ByteArray) (a:Nat) (l:List Nat):Prop:=a≤text.size∧∃ r,(nb text).drop a=l++r
theorem At.len {text:ByteArray} {a:Nat} {l:List Nat} (h:At text a l):a+l.length≤text.size:=by
 obtain ⟨h0,r,h⟩:=h
 have:=congrArg List.length h
 rw [List.length_drop,List.length_append,zQ9] at this
 omega
theorem At.app {text:ByteArray} {a:Nat} {l m:List Nat} (h:At text a (l++m)):At text a l∧At text (a+l.length) m:=by
 have hl:=h.len
 rw [List.length_append] at hl
 obtain ⟨h0,r,h⟩:=h
 refine ⟨⟨h0,m++r,by rw [h,List.append_assoc]⟩,by omega,r,?_⟩
 rw [← List.drop_drop,h,List.append_assoc,List.drop_left]
theorem At.get {text:ByteArray} {a:Nat} {l:List Nat} (h:At text a l) {k:Nat} (hk:k < l.length):(nb text)[a+k]? = some l[k]:=by
 obtain ⟨h0,r,h⟩:=h
 rw [← List.getElem?_drop,h,List.getElem?_append_left hk,List.getElem?_eq_getElem hk]
theorem At.take {text:ByteArray} {a:Nat} {l:List Nat} (h:At text a l):nb (text.extract a (a+l.length))=l:=by
 obtain ⟨h0,r,h⟩:=h
 rw [zQ6,h,Nat.add_sub_cancel_left,List.take_left]
end Go.TV.F
namespace Go.TV.F
open Go.TV
end Go.TV.F
set_option maxRecDepth 100000
namespace Go.TV.F
open Go.TV
def e0:ByteArray:=ByteArray.mk #[]
end Go.TV.F
namespace Go.TV.F
open Go.TV
theorem mark_sim {text:ByteArray} (ht:text.size≤60000) {s:T_impl_scanner} {c:T_spec_l08Cur} (h:Sim text s c) (mark:ByteArray) (hm:mark.size≤100) (hm1:0 < mark.size):∃ s' t c',zD6 s mark=some s'∧jC c (mark.size:Int)=some (t,c')∧(∃ c2,Sim text s' c2) ∧
  ((!(t.toList == mark.toList))=false→Sim text s' c'∧(s'.bad=false→s.bad=false∧Rd text s s' (nb mark)))∧((!(t.toList == mark.toList))=true→s'.bad=true):=by
 obtain ⟨t,s1,c',h1,h2,h3,h4,_⟩:=take_sim ht h (n:=mark.size) (by omega)
 unfold zD6
 rw [show T_impl_scanner.mk s.text s.at_ s.bad=s from rfl,h1,h2]
 simp only [Option.bind_some]
 cases q : !(t.toList == mark.toList) with
 | true =>
  simp only [if_true]
  obtain ⟨a,b,g1,g2,g3,g4,g5⟩:=h3.at_
  exact ⟨_,t,c',rfl,rfl,⟨⟨text,s1.at_,true⟩,h3.st,rfl,rfl,a,a,g1,g1,g3,g3,fun h=>by cases h⟩,(fun h=>absurd (q.symm.trans h) (by decide)),fun _=>rfl⟩
 | false =>
  simp only [Bool.false_eq_true,if_false]
  refine ⟨_,t,c',rfl,rfl,⟨c',h3⟩,fun _=>⟨h3,fun hb=>⟨(h4 hb).1,?_⟩⟩,fun h=>absurd (q.symm.trans h) (by decide)⟩
  have e:nb t=nb mark:=by
   rw [beq_nb] at q
   simpa using q
  rw [← e]
  exact (h4 hb).2.2
theorem four_eq {s:ByteArray} (hs:s.size≤1000000000):∃ u:ByteArray,u.size=4∧(∀ t,vL s=some t→kT t=some u)∧(∃ t,vL s=some t∧kT t=some u∧uJ s=some u):=by
 obtain ⟨r,h1,h2,h3⟩:=sumOf_eq (text:=s) hs
 refine ⟨mkS [(wk .u8 (xL .u32 r 24)),(wk .u8 (xL .u32 r 16)),(wk .u8 (xL .u32 r 8)),(wk .u8 r)],?_,?_,r,h2,rfl,?_⟩
 ·rw [qF3]
  rfl
 ·intro t ht
  rw [h2] at ht
  injection ht with ht
  subst ht
  rfl
 ·unfold uJ
  rw [h1]
  rfl
theorem sealedS_eq {s:ByteArray}:uH s=if s.size > 60000 then some (ByteArray.mk #[],false) else (vL s).bind fun x9=>(kT x9).bind fun x10=>some (s++x10,true):=by
 unfold uH
 by_cases q:s.size > 60000
 ·rw [ifT (by simp; omega),if_pos q]
 ·rw [ifF (by simp; omega),if_neg q]
  obtain ⟨u,h1,h2,t,h3,h4,_⟩:=four_eq (s:=s) (by omega)
  simp only [h3,h4,Option.bind_some]
  rw [uL (by omega)]
  rfl
theorem unsealed2 {text:ByteArray} (ht:text.size≤1000000000):∃ t ok,zI4 text=some (t,ok)∧zD3 text=some (t,ok)∧t.size≤60000∧(ok=true→uH t=some (text,true))∧(∀ s,uH s=some (text,true)→s=t∧ok=true):=by
 obtain ⟨t,ok,h1,h2,h3⟩:=unsealed_eq ht
 have hs:=h2
 unfold zD3 at hs
 rw [qM (x:=(text.size:Int) - 4) (by omega) (by omega)] at hs
 have back:∀ s,uH s=some (text,true)→∃ u:ByteArray,s.size≤60000∧u.size=4∧text=s++u∧∃ x,vL s=some x∧kT x=some u:=by
  intro s h
  rw [sealedS_eq] at h
  by_cases q:s.size > 60000
  ·rw [if_pos q] at h
   injection h with h
   injection h with _ h
   cases h
  ·rw [if_neg q] at h
   obtain ⟨u,g1,g2,x,g3,g4,_⟩:=four_eq (s:=s) (by omega)
   rw [g3,Option.bind_some,g4,Option.bind_some] at h
   injection h with h
   injection h with h _
   exact ⟨u,by omega,g1,h.symm,x,g3,g4⟩
 refine ⟨t,ok,h1,h2,h3,?_,?_⟩
 ·intro hok
  subst hok
  by_cases q:(text.size:Int) - 4 < 0
  ·rw [ifT (by simpa using q)] at hs
   simp at hs
  rw [ifF (by simpa using q)] at hs
  simp only [Option.bind_some] at hs
  by_cases q2:(text.size:Int) - 4 > 60000
  ·rw [decide_eq_true q2] at hs
   simp at hs
  rw [decide_eq_false q2] at hs
  simp only [Bool.false_eq_true,if_false] at hs
  rw [subL_in (by omega) (by omega),subH_in (by omega) (by omega)] at hs
  simp only [Option.bind_some] at hs
  have hsz:(text.extract 0 ((text.size:Int) - 4).toNat).size=text.size - 4:=by
   rw [ByteArray.size_extract]
   omega
  obtain ⟨u,g1,g2,x,g3,g4,_⟩:=four_eq (s:=text.extract 0 ((text.size:Int) - 4).toNat) (by omega)
  rw [g3,Option.bind_some,g4] at hs
  simp only [Option.bind_some] at hs
  cases e:(!((text.extract ((text.size:Int) - 4).toNat text.size).toList == u.toList)) with
  | true =>
   rw [e] at hs
   simp at hs
  | false =>
   rw [e] at hs
   simp only [Bool.false_eq_true,if_false,Option.some.injEq,Prod.mk.injEq,and_true] at hs
   subst hs
   rw [sealedS_eq,if_neg (by omega),g3,Option.bind_some,g4,Option.bind_some]
   congr 2
   apply nb_inj
   rw [beq_nb] at e
   have e':nb (text.extract ((text.size:Int) - 4).toNat text.size)=nb u:=by simpa using e
   rw [nb_append,← e',zQ6,zQ6]
   have hl:=zQ9 text
   have hk:((text.size:Int) - 4).toNat=text.size - 4:=by omega
   rw [hk,Nat.sub_zero,List.drop_zero,List.take_of_length_le (l:=(nb text).drop (text.size - 4)) (by rw [List.length_drop]; omega),List.take_append_drop]
 ·intro s h
  obtain ⟨u,g1,g2,rfl,x,g3,g4⟩:=back s h
  have hsu:(s++u).size=s.size+4:=by rw [ByteArray.size_append,g2]
  have ex1:(s++u).extract 0 (((s++u).size:Int) - 4).toNat=s:=by
   apply nb_inj
   rw [zQ6,nb_append,List.drop_zero,Nat.sub_zero,show (((s++u).size:Int) - 4).toNat=(nb s).length by rw [zQ9]; omega,List.take_left]
  have ex2:(s++u).extract (((s++u).size:Int) - 4).toNat (s++u).size=u:=by
   apply nb_inj
   have hu:=zQ9 u
   have hs':=zQ9 s
   rw [zQ6,nb_append,show (((s++u).size:Int) - 4).toNat=(nb s).length by rw [zQ9]; omega,List.drop_left,List.take_of_length_le (by omega)]
  rw [ifF (by simp; omega)] at hs
  simp only [Option.bind_some] at hs
  rw [decide_eq_false (by omega)] at hs
  simp only [Bool.false_eq_true,if_false] at hs
  rw [subL_in (by omega) (by omega),subH_in (by omega) (by omega)] at hs
  simp only [Option.bind_some,ex1,ex2,g3,g4,beq_self_eq_true,Bool.not_true,Bool.false_eq_true,if_false,Option.some.injEq,Prod.mk.injEq] at hs
  exact ⟨hs.1,hs.2.symm⟩
end Go.TV.F
namespace Go.TV.F
open Go.TV
end Go.TV.F
