/- The plain laws. -/
import Derived.Test.YtmoglghkjfjalaaGreatKFnExactFileLogT4
import Derived.Laws.BitsLemmas
import Derived.Test.YtmoglghkjfjalaaGreatKFnExactFileLogD
set_option linter.unusedVariables false
set_option linter.unusedSimpArgs false
set_option maxHeartbeats 8000000
set_option maxRecDepth 100000
namespace Go.TV.F
open Go.TV
theorem wk64 {x:Int} (h1 : -9223372036854775808≤x) (h2:x < 9223372036854775808):wk .i64 x=x:=by
 simp only [wk,IntKind.wrap,IntKind.bits,IntKind.signed,Bool.true_and,decide_eq_true_eq,Nat.reduceSub,Int.reducePow]
 split
 ·rename_i h; simp at h; omega
 ·rename_i h; simp at h; omega
theorem wku64 {x:Int} (h1:0≤x) (h2:x < 18446744073709551616):wk .u64 x=x:=by
 simp only [wk,IntKind.wrap,IntKind.bits,IntKind.signed,Bool.true_and,Bool.false_and,decide_eq_true_eq,Bool.false_eq_true,if_false,Nat.reduceSub,Int.reducePow]
 first | omega | (split <;> omega)
theorem zQ {α:Type} (l:List α) (k:Nat):zX l (k:Int)=l[k]?:=by
 unfold zX
 rw [if_neg (by omega),Int.toNat_natCast]
theorem geti_in {α:Type} {l:List α} {i:Int} (h1:0≤i) (h2:i < l.length):zX l i=some (l[i.toNat]'(by omega)):=by
 unfold zX
 rw [if_neg (by omega),List.getElem?_eq_getElem]
theorem mkl_in {α:Type} {n:Int} {z:α} (h1:0≤n) (h2:n≤1099511627776):mkl n n z=some (List.replicate n.toNat z):=by
 unfold mkl
 rw [if_pos ⟨h1,Int.le_refl _,h2⟩]
theorem appn_in {α:Type} {l m:List α} (h:l.length+m.length≤549755813888):appn l m=some (l++m):=by
 unfold appn
 rw [if_pos h]
theorem sapp_in {s t:ByteArray} (h:s.size+t.size≤4611686018427387904):sapp s t=some (s++t):=by
 unfold sapp
 rw [if_pos h]
theorem chk_in {p:Prop} [Decidable p] (h:p):chk p=some ():=by
 unfold chk
 rw [if_pos h]
theorem loopM_at {σ ρ:Type} {body:σ→Option (σ⊕ρ)} {r:ρ} (f:Nat→σ) (n:Nat) (hs:∀ k,k < n→body (f k)=some (.inl (f (k+1)))) (he:body (f n)=some (.inr r)):zW body (f 0)=some r:=by
 have key:∀ m k,k+m=n→zW body (f k)=some r:=by
  intro m
  induction m with
  | zero=>intro k hk; rw [Nat.add_zero] at hk; subst hk; rw [qX,he]; rfl
  | succ m ih=>intro k hk; rw [qX,hs k (by omega)]; exact ih (k+1) (by omega)
 exact key n 0 (by omega)
theorem loopM_all {σ ρ:Type} {body:σ→Option (σ⊕ρ)} {good bad:ρ} (f:Nat→σ) (n:Nat) (p:Nat→Bool) (hs:∀ k,k < n→(∀ j,j < k→p j=true)→p k=true→body (f k)=some (.inl (f (k+1))))
  (hb:∀ k,k < n→(∀ j,j < k→p j=true)→p k=false→body (f k)=some (.inr bad)) (he:(∀ j,j < n→p j=true)→body (f n)=some (.inr good)):zW body (f 0)=some (if (List.range n).all p=true then good else bad):=by
 have key:∀ m k,k+m=n→(∀ j,j < k→p j=true)→zW body (f k)=some (if (List.range n).all p=true then good else bad):=by
  intro m
  induction m with
  | zero =>
   intro k hk hp
   rw [Nat.add_zero] at hk
   subst hk
   rw [qX,he hp,if_pos (by simpa using hp)]
   rfl
  | succ m ih =>
   intro k hk hp
   rw [qX]
   cases q:p k with
   | true =>
    rw [hs k (by omega) hp q]
    refine ih (k+1) (by omega) (fun j hj=>?_)
    rcases Nat.lt_succ_iff_lt_or_eq.1 hj with h | rfl
    ·exact hp j h
    ·exact q
   | false =>
    rw [hb k (by omega) hp q,if_neg]
    ·rfl
    ·intro hq
     have:=List.all_eq_true.1 hq k (List.mem_range.2 (by omega))
     rw [q] at this
     cases this
 exact key n 0 (by omega) (fun j hj=>by omega)
end Go.TV.F
namespace Go.TV.F
open Go.TV
def sumOf {α:Type} (w:α→Nat):List α→Nat
 | []=>0
 | x :: l=>w x+sumOf w l
theorem sumOf_mem {α:Type} {w:α→Nat} {l:List α} {x:α} (h:x ∈ l):w x≤sumOf w l:=by
 induction l with
 | nil=>cases h
 | cons y l ih =>
  rcases List.mem_cons.1 h with rfl | h
  ·simp [sumOf]
  ·have:=ih h
   simp [sumOf]
   omega
theorem to_loop {α β:Type} {body:Int×List β→Option ((Int×List β)⊕List β)} (a:List α) (f:α→β) (z:β) (hs:∀ (i:Nat) (x:α) (out:List β),a[i]? = some x→out.length=a.length→body ((i:Int),out)=some (.inl (((i+1:Nat):Int),out.set i (f x))))
  (he:∀ out:List β,out.length=a.length→body ((a.length:Int),out)=some (.inr out)):zW body ((0:Int),List.replicate a.length z)=some (a.map f):=by
 have key:∀ (l pre:List α),a=pre++l→zW body ((pre.length:Int),pre.map f++List.replicate l.length z)=some (a.map f):=by
  intro l
  induction l with
  | nil =>
   intro pre h
   rw [List.append_nil] at h
   subst h
   rw [qX,he _ (by simp)]
   simp
  | cons x l ih =>
   intro pre h
   rw [qX,hs pre.length x _ (by rw [h]; simp) (by rw [h]; simp)]
   have:=ih (pre++[x]) (by rw [h]; simp)
   rw [List.length_append,List.map_append] at this
   have e:(List.map f pre++List.replicate (x :: l).length z).set pre.length (f x)=List.map f pre++List.map f [x]++List.replicate l.length z:=by
    rw [List.set_append_right _ _ (by simp)]
    simp [List.replicate_succ]
   rw [e]
   exact this
 exact key a [] rfl
theorem eq_loop {ρ:Type} {body:Int→Option (Int⊕ρ)} {r:ρ} (n:Nat) (hs:∀ i:Nat,i < n→body (i:Int)=some (.inl ((i+1:Nat):Int))) (he:body (n:Int)=some (.inr r)):zW body 0=some r:=
 loopM_at (fun k=>(k:Int)) n hs he
def mkL {α:Type} (c:α→Nat) (mk:α→Int→α):List α→Int→List α
 | [],_=>[]
 | x :: l,k=>mk x k :: mkL c mk l (k+c x)
theorem mkL_len {α:Type} (c:α→Nat) (mk:α→Int→α):∀ (l:List α) (k:Int),(mkL c mk l k).length=l.length
 | [],_=>rfl
 | x :: l,k=>by simp [mkL,mkL_len c mk l]
theorem mark_loop {α:Type} {body:Int×Int×List α→Option ((Int×Int×List α)⊕(Int×List α))} (c:α→Nat) (mk:α→Int→α) (a:List α) (k0 B:Int) (h1:1≤k0) (hB:k0+sumOf c a≤B)
  (hs:∀ (k:Int) (i:Nat) (x:α) (l:List α),l[i]? = some x→x ∈ a→l.length=a.length→1≤k→k+c x≤B→body (k,(i:Int),l)=some (.inl (k+c x,((i+1:Nat):Int),l.set i (mk x k))))
  (he:∀ (k:Int) (l:List α),l.length=a.length→body (k,(a.length:Int),l)=some (.inr (k,l))):zW body (k0,(0:Int),a)=some (k0+sumOf c a,mkL c mk a k0):=by
 have key:∀ (l pre:List α) (k:Int),(∀ x ∈ l,x ∈ a)→pre.length+l.length=a.length→1≤k→k+sumOf c l≤B→zW body (k,(pre.length:Int),pre++l)=some (k+sumOf c l,pre++mkL c mk l k):=by
  intro l
  induction l with
  | nil =>
   intro pre k _ hl h1 hB
   rw [qX,show (pre.length:Int)=(a.length:Int) by simp at hl; omega,he _ _ (by simpa using hl)]
   simp [sumOf,mkL]
  | cons x l ih =>
   intro pre k hm hl h1 hB
   simp only [sumOf] at hB
   rw [qX,hs k pre.length x _ (by simp) (hm x (by simp)) (by simpa using hl) h1 (by omega)]
   have:=ih (pre++[mk x k]) (k+c x) (fun y hy=>hm y (by simp [hy])) (by simp at hl ⊢; omega) (by omega) (by omega)
   have e:(pre++x :: l).set pre.length (mk x k)=pre++[mk x k]++l:=by
    rw [List.set_append_right _ _ (by simp)]
    simp
   rw [e]
   rw [List.length_append] at this
   refine this.trans ?_
   simp only [sumOf,mkL,List.append_assoc,List.cons_append,List.nil_append,Option.some.injEq,Prod.mk.injEq,and_true]
   omega
 exact key a [] k0 (fun _ h=>h) (by simp) h1 hB
theorem held_loop {α:Type} {ρ:Type} {body:Int×Int→Option ((Int×Int)⊕ρ)} {r:Int→ρ} (c:α→Nat) (mk:α→Int→α) (a:List α) (k0 B:Int) (h1:1≤k0) (hB:k0+sumOf c a≤B)
  (hs:∀ (k:Int) (i:Nat) (x:α),(mkL c mk a k0)[i]? = some (mk x k)→i < a.length→x ∈ a→1≤k→k+c x≤B→body (k,(i:Int))=some (.inl (k+c x,((i+1:Nat):Int))))
  (he:∀ (k:Int),body (k,(a.length:Int))=some (.inr (r k))):zW body (k0,(0:Int))=some (r (k0+sumOf c a)):=by
 have key:∀ (l:List α) (pre:List α) (k:Int),(∀ x ∈ l,x ∈ a)→mkL c mk a k0=pre++mkL c mk l k→pre.length+l.length=a.length→1≤k→k+sumOf c l≤B→zW body (k,(pre.length:Int))=some (r (k+sumOf c l)):=by
  intro l
  induction l with
  | nil =>
   intro pre k _ _ hl h1 hB
   rw [qX,show (pre.length:Int)=(a.length:Int) by simp at hl; omega,he]
   simp [sumOf]
  | cons x l ih =>
   intro pre k hm hp hl h1 hB
   simp only [sumOf] at hB
   rw [qX,hs k pre.length x (by rw [hp]; simp [mkL]) (by simp at hl; omega) (hm x (by simp)) h1 (by omega)]
   have:=ih (pre++[mk x k]) (k+c x) (fun y hy=>hm y (by simp [hy])) (by rw [hp]; simp [mkL]) (by simp at hl ⊢; omega) (by omega) (by omega)
   rw [List.length_append] at this
   refine this.trans ?_
   simp only [sumOf,Option.some.injEq]
   congr 1
   omega
 exact key a [] k0 (fun _ h=>h) rfl (by simp) h1 hB
theorem sz_loop {α:Type} {body:Int×Int→Option ((Int×Int)⊕(Int⊕Int))} (w:α→Nat) (a:List α) (left:Int) (h0:0≤left)
  (hs:∀ (s:Int) (i:Nat) (x:α),a[i]? = some x→0≤s→s≤left→body (s,(i:Int))=if (w x:Int)≤s then some (.inl (s - w x,((i+1:Nat):Int))) else some (.inr (.inl (-1))))
  (he:∀ (s:Int),body (s,(a.length:Int))=some (.inr (.inr s))):zW body (left,(0:Int))=some (if (sumOf w a:Int)≤left then .inr (left - sumOf w a) else .inl (-1)):=by
 have key:∀ (l:List α) (pre:List α) (s:Int),a=pre++l→0≤s→s≤left→zW body (s,(pre.length:Int))=some (if (sumOf w l:Int)≤s then .inr (s - sumOf w l) else .inl (-1)):=by
  intro l
  induction l with
  | nil =>
   intro pre s h h1 h2
   rw [List.append_nil] at h
   rw [qX,← h,he]
   simp [sumOf,h1]
  | cons x l ih =>
   intro pre s h h1 h2
   rw [qX,hs s pre.length x (by rw [h]; simp) h1 h2]
   have e:((sumOf w (x :: l):Nat):Int)=w x+sumOf w l:=by simp [sumOf]
   by_cases q:(w x:Int)≤s
   ·rw [if_pos q]
    have:=ih (pre++[x]) (s - w x) (by rw [h]; simp) (by omega) (by omega)
    rw [List.length_append] at this
    refine this.trans ?_
    by_cases q2:(sumOf w l:Int)≤s - w x
    ·rw [if_pos q2,if_pos (by omega)]
     congr 2
     omega
    ·rw [if_neg q2,if_neg (by omega)]
   ·rw [if_neg q]
    rw [if_neg (by omega)]
    rfl
 exact key a [] left rfl h0 (Int.le_refl _)
end Go.TV.F
namespace Go.TV.F
open Go.TV
def riseAt (l:List Int) (n:Int) (i:Nat):Bool:=decide (l.getD i 0≥0) && decide (l.getD i 0≤n - 1) && (i == 0 || decide (l.getD (i - 1) 0 < l.getD i 0))
def rise (l:List Int) (n:Int):Bool:=(List.range l.length).all (riseAt l n)
def gAt (g:List (List Int)) (v:Nat):Bool:=decide ((g.getD v []).length≤4) && rise (g.getD v []) v
def gOk (g:List (List Int)):Bool:=decide (g.length≤40) && (List.range g.length).all (gAt g)
theorem gOk_len {g:List (List Int)} (h:gOk g=true):g.length≤40:=by
 simp only [gOk,Bool.and_eq_true,decide_eq_true_eq] at h
 exact h.1
theorem gOk_at {g:List (List Int)} (hg:gOk g=true) {v:Nat} (hv:v < g.length):g[v].length≤4∧rise g[v] v=true:=by
 simp only [gOk,Bool.and_eq_true] at hg
 have h1:=List.all_eq_true.1 hg.2 v (List.mem_range.2 hv)
 have:g.getD v []=g[v]:=by simp [hv]
 simp only [gAt,this,Bool.and_eq_true,decide_eq_true_eq] at h1
 exact h1
theorem rise_mem {l:List Int} {n:Int} (h:rise l n=true) {x:Int} (hx:x ∈ l):0≤x∧x≤n - 1:=by
 obtain ⟨i,hi,rfl⟩:=List.getElem_of_mem hx
 have:=List.all_eq_true.1 h i (List.mem_range.2 hi)
 have e:l.getD i 0=l[i]:=by simp [hi]
 simp only [riseAt,e,Bool.and_eq_true,decide_eq_true_eq] at this
 exact this.1
theorem gOk_mem {g:List (List Int)} (hg:gOk g=true) {v:Nat} (hv:v < g.length) {x:Int} (hx:x ∈ g[v]):0≤x∧x < v:=by
 have:=rise_mem (gOk_at hg hv).2 hx
 omega
def orL (c:List Nat) (l:List Int):Nat:=l.foldl (fun (s:Nat) (x:Int)=>s ||| c.getD x.toNat 0) 0
theorem orL_snoc (c:List Nat) (l:List Int) (x:Int):orL c (l++[x])=orL c l ||| c.getD x.toNat 0:=by
 unfold orL
 rw [List.foldl_append]
 rfl
theorem orL_take {c:List Nat} {l:List Int} {i:Nat} (hi:i < l.length):orL c (l.take (i+1))=orL c (l.take i) ||| c.getD l[i].toNat 0:=by
 rw [List.take_succ_eq_append_getElem hi,orL_snoc]
theorem getD_lt {c:List Nat} (hc:∀ x ∈ c,x < 2 ^ 64) (i:Nat):c.getD i 0 < 2 ^ 64:=by
 rw [List.getD_eq_getElem?_getD]
 rcases q:c[i]? with _ | x
 ·decide
 ·exact hc x (List.mem_of_getElem? q)
theorem orL_lt {c:List Nat} (hc:∀ x ∈ c,x < 2 ^ 64) (l:List Int):orL c l < 2 ^ 64:=by
 unfold orL
 suffices h:∀ (l:List Int) (s:Nat),s < 2 ^ 64→l.foldl (fun (s:Nat) (x:Int)=>s ||| c.getD x.toNat 0) s < 2 ^ 64 from h l 0 (by decide)
 intro l
 induction l with
 | nil=>intro s hs; exact hs
 | cons x l ih=>intro s hs; exact ih _ (Nat.or_lt_two_pow hs (getD_lt hc _))
theorem orL_test (c:List Nat) (l:List Int) (u:Nat):(orL c l).testBit u=l.any fun x=>(c.getD x.toNat 0).testBit u:=by
 unfold orL
 suffices h:∀ (l:List Int) (s:Nat),(l.foldl (fun (s:Nat) (x:Int)=>s ||| c.getD x.toNat 0) s).testBit u=(s.testBit u || l.any fun x=>(c.getD x.toNat 0).testBit u) by
  rw [h]; simp
 intro l
 induction l with
 | nil=>intro s; simp
 | cons x l ih=>intro s; rw [List.foldl_cons,ih,Nat.testBit_or,List.any_cons,Bool.or_assoc]
theorem wrapu {n:Int} (h0:0≤n) (h1:n < 2 ^ 64):IntKind.wrap .u64 n=n:=wku64 h0 (by omega)
theorem or_u64 {a b:Nat} (ha:a < 2 ^ 64) (hb:b < 2 ^ 64):bits .or .u64 a b=((a ||| b:Nat):Int):=(bits_nat .u64 64 (by decide) (fun n h0 h1=>wrapu h0 h1) a b ha hb).2
theorem and_u64 {a b:Nat} (ha:a < 2 ^ 64) (hb:b < 2 ^ 64):bits .and .u64 a b=((a &&& b:Nat):Int):=(bits_nat .u64 64 (by decide) (fun n h0 h1=>wrapu h0 h1) a b ha hb).1
theorem shl_one {n:Nat} (hn:n < 64):shlI .u64 1 (n:Int)=((2 ^ n:Nat):Int):=by
 have h:(2 ^ n:Nat) < 2 ^ 64:=Nat.pow_lt_pow_right (by decide) hn
 unfold shlI
 rw [Int.toNat_natCast,show min n IntKind.u64.bits=n by simp [IntKind.bits]; omega,Int.one_mul]
 have e:((2:Int) ^ n)=((2 ^ n:Nat):Int):=by simp
 rw [e]
 exact wku64 (Int.natCast_nonneg _) (Int.ofNat_lt.2 (show 2 ^ n < 18446744073709551616 from h))
theorem shr_test (s n:Nat) (hs:s < 2 ^ 64) (hn:n < 64):((bits .and .u64 (shrI .u64 (s:Int) (n:Int)) 1) == 1)=s.testBit n:=by
 have e1:shrI .u64 (s:Int) (n:Int)=((s / 2 ^ n:Nat):Int):=by
  unfold shrI
  rw [Int.toNat_natCast,show min n IntKind.u64.bits=n by simp [IntKind.bits]; omega]
  simp
 have e2:=and_u64 (a:=s / 2 ^ n) (b:=1) (Nat.lt_of_le_of_lt (Nat.div_le_self _ _) hs) (by decide)
 rw [e1,show ((1:Int))=((1:Nat):Int) from rfl,e2,Nat.testBit_eq_decide_div_mod_eq,Nat.and_one_is_mod]
 rcases Nat.mod_two_eq_zero_or_one (s / 2 ^ n) with q | q <;> rw [q] <;> rfl
def bitsL (s n:Nat):List Nat:=(List.range n).filter fun v=>s.testBit v
theorem bitsL_succ (s n:Nat):bitsL s (n+1)=if s.testBit n=true then bitsL s n++[n] else bitsL s n:=by
 simp only [bitsL,List.range_succ,List.filter_append]
 cases q:s.testBit n <;> simp [q]
theorem bitsL_len (s n:Nat):(bitsL s n).length≤n:=by
 have:=List.length_filter_le (fun v=>s.testBit v) (List.range n)
 simpa [bitsL] using this
def ints (l:List Nat):List Int:=l.map fun (n:Nat)=>(n:Int)
def closN (g:List (List Int)):Nat→List Nat
 | 0=>List.replicate g.length 0
 | n+1=>(closN g n).set n (orL (closN g n) (g.getD n []) ||| 2 ^ n)
theorem closN_len (g:List (List Int)):∀ n,(closN g n).length=g.length
 | 0=>by simp [closN]
 | n+1=>by rw [closN,List.length_set,closN_len]
theorem closN_lt {g:List (List Int)} (hg:g.length≤40):∀ n,n≤g.length→∀ x ∈ closN g n,x < 2 ^ 64
 | 0,_,x,hx=>by
  have:=List.eq_of_mem_replicate hx
  subst this
  decide
 | n+1,hn,x,hx=>by
  rcases List.mem_or_eq_of_mem_set hx with q | q
  ·exact closN_lt hg n (by omega) x q
  ·rw [q]
   exact Nat.or_lt_two_pow (orL_lt (closN_lt hg n (by omega)) _) (Nat.pow_lt_pow_right (by decide) (by omega))
theorem closN_old (g:List (List Int)):∀ (n k i:Nat),i < n→(closN g (n+k)).getD i 0=(closN g n).getD i 0
 | _,0,_,_=>rfl
 | n,k+1,i,hi=>by
  rw [← Nat.add_assoc,closN,List.getD_eq_getElem?_getD,List.getElem?_set_ne (by omega),← List.getD_eq_getElem?_getD]
  exact closN_old g n k i hi
def clo (g:List (List Int)) (v:Nat):Nat:=(closN g g.length).getD v 0
theorem closN_clo {g:List (List Int)} {n i:Nat} (hn:n≤g.length) (hi:i < n):(closN g n).getD i 0=clo g i:=by
 have:=closN_old g n (g.length - n) i hi
 rw [show n+(g.length - n)=g.length by omega] at this
 exact this.symm
theorem clo_lt {g:List (List Int)} (hg:gOk g=true) (v:Nat):clo g v < 2 ^ 64:=getD_lt (closN_lt (gOk_len hg) _ (Nat.le_refl _)) v
theorem clo_test {g:List (List Int)} (hg:gOk g=true) {v:Nat} (hv:v < g.length) (u:Nat):(clo g v).testBit u=(decide (u=v) || g[v].any fun p=>(clo g p.toNat).testBit u):=by
 have e:g.getD v []=g[v]:=by simp [hv]
 have h1:clo g v=orL (closN g v) g[v] ||| 2 ^ v:=by
  rw [← closN_clo (n:=v+1) (by omega) (by omega),closN,List.getD_eq_getElem?_getD,List.getElem?_set_self (by rw [closN_len]; omega),e]
  rfl
 have h2:(orL (closN g v) g[v]).testBit u=g[v].any fun p=>(clo g p.toNat).testBit u:=by
  rw [orL_test,Bool.eq_iff_iff,List.any_eq_true,List.any_eq_true]
  constructor
  ·rintro ⟨x,hx,h⟩
   have:=gOk_mem hg hv hx
   exact ⟨x,hx,by rw [← closN_clo (n:=v) (by omega) (by omega)]; exact h⟩
  ·rintro ⟨x,hx,h⟩
   have:=gOk_mem hg hv hx
   exact ⟨x,hx,by rw [closN_clo (by omega) (by omega)]; exact h⟩
 rw [h1,Nat.testBit_or,h2,Nat.testBit_two_pow,Bool.or_comm]
 congr 1
 simp only [decide_eq_decide]
 omega
theorem clo_self {g:List (List Int)} (hg:gOk g=true) {v:Nat} (hv:v < g.length):(clo g v).testBit v=true:=by
 rw [clo_test hg hv]
 simp
theorem clo_le {g:List (List Int)} (hg:gOk g=true):∀ {v:Nat},v < g.length→∀ {u:Nat},(clo g v).testBit u=true→u≤v:=by
 intro v
 induction v using Nat.strongRecOn with
 | _ v ih =>
  intro hv u h
  rw [clo_test hg hv] at h
  simp only [Bool.or_eq_true,decide_eq_true_eq,List.any_eq_true] at h
  rcases h with h | ⟨p,hp,h⟩
  ·omega
  ·have:=gOk_mem hg hv hp
   have:=ih p.toNat (by omega) (by omega) h
   omega
def mark (b:List Bool) (l:List Int):List Bool:=l.foldl (fun (b:List Bool) (x:Int)=>if 0≤x∧x < b.length then b.set x.toNat true else b) b
def step (g:List (List Int)) (b:List Bool) (v:Nat):List Bool:=if b.getD v false=true then mark b (g.getD v []) else b
def down (g:List (List Int)):Nat→List Bool→List Bool
 | 0,b=>b
 | n+1,b=>down g n (step g b n)
def setL (g:List (List Int)) (l:List Int):List Bool:=down g g.length (mark (List.replicate g.length false) l)
theorem mark_snoc (b:List Bool) (l:List Int) (x:Int):mark b (l++[x])=if 0≤x∧x < (mark b l).length then (mark b l).set x.toNat true else mark b l:=by
 unfold mark
 rw [List.foldl_append]
 rfl
theorem mark_len (b:List Bool) (l:List Int):(mark b l).length=b.length:=by
 unfold mark
 induction l generalizing b with
 | nil=>rfl
 | cons x l ih =>
  rw [List.foldl_cons,ih]
  split <;> simp
theorem mark_take {b:List Bool} {l:List Int} {i:Nat} (hi:i < l.length):mark b (l.take (i+1))=if 0≤l[i]∧l[i] < b.length then (mark b (l.take i)).set l[i].toNat true else mark b (l.take i):=by
 rw [List.take_succ_eq_append_getElem hi,mark_snoc,mark_len]
theorem mark_get (b:List Bool) (l:List Int) (u:Nat):(mark b l).getD u false=(b.getD u false || (decide (u < b.length) && l.any fun x=>x == (u:Int))):=by
 unfold mark
 induction l generalizing b with
 | nil=>simp
 | cons x l ih =>
  rw [List.foldl_cons,ih,List.any_cons]
  split
  ·rename_i hx
   simp only [List.length_set,List.getD_eq_getElem?_getD,List.getElem?_set]
   by_cases e:x.toNat=u
   ·have e':(x == (u:Int))=true:=by simp; omega
    rw [if_pos e,if_pos (by omega),e']
    simp
    right
    omega
   ·have e':(x == (u:Int))=false:=by simp; omega
    rw [if_neg e,e',Bool.false_or]
  ·rename_i hx
   by_cases e:x=(u:Int)
   ·have:¬u < b.length:=by omega
    simp [this]
   ·have e':(x == (u:Int))=false:=by simp; exact e
    rw [e',Bool.false_or]
theorem down_len (g:List (List Int)):∀ (n:Nat) (b:List Bool),(down g n b).length=b.length
 | 0,_=>rfl
 | n+1,b=>by
  rw [down,down_len,step]
  split
  ·exact mark_len _ _
  ·rfl
theorem setL_len (g:List (List Int)) (l:List Int):(setL g l).length=g.length:=by rw [setL,down_len,mark_len]; simp
theorem down_get {g:List (List Int)} (hg:gOk g=true):∀ (m:Nat) (b:List Bool),m≤g.length→b.length=g.length→∀ u,(down g m b).getD u false=true↔∃ w,b.getD w false=true∧((w < m∧(clo g w).testBit u=true)∨u=w)
 | 0,b,_,_,u=>by
  rw [down]
  exact ⟨fun h=>⟨u,h,.inr rfl⟩,fun ⟨w,h1,h2⟩=>by
   rcases h2 with ⟨h2,_⟩ | h2
   ·omega
   ·rw [h2]; exact h1⟩
 | m+1,b,hm,hb,u=>by
  have hl:(step g b m).length=g.length:=by
   rw [step]
   split
   ·rw [mark_len]; exact hb
   ·exact hb
  rw [down,down_get hg m _ (by omega) hl u]
  have e:g.getD m []=g[m]:=by simp [show m < g.length by omega]
  by_cases q:b.getD m false=true
  ·rw [step,if_pos q,e]
   constructor
   ·rintro ⟨w,h1,h2⟩
    rw [mark_get] at h1
    simp only [Bool.or_eq_true,Bool.and_eq_true,decide_eq_true_eq,List.any_eq_true] at h1
    rcases h1 with h1 | ⟨_,x,hx,h1⟩
    ·refine ⟨w,h1,?_⟩
     rcases h2 with ⟨h2,h3⟩ | h2
     ·exact .inl ⟨by omega,h3⟩
     ·exact .inr h2
    ·have hx':=gOk_mem hg (v:=m) (by omega) hx
     have h1:x=(w:Int):=by simpa using h1
     subst h1
     refine ⟨m,q,.inl ⟨by omega,?_⟩⟩
     rw [clo_test hg (by omega)]
     simp only [Bool.or_eq_true,List.any_eq_true]
     refine .inr ⟨(w:Int),hx,?_⟩
     rw [Int.toNat_natCast]
     rcases h2 with ⟨_,h2⟩ | h2
     ·exact h2
     ·rw [h2]
      exact clo_self hg (by omega)
   ·rintro ⟨w,h1,h2⟩
    by_cases hw:w=m
    ·subst hw
     rcases h2 with ⟨_,h2⟩ | h2
     ·rw [clo_test hg (by omega)] at h2
      simp only [Bool.or_eq_true,decide_eq_true_eq,List.any_eq_true] at h2
      rcases h2 with h2 | ⟨p,hp,h2⟩
      ·exact ⟨w,by rw [mark_get,h1]; rfl,.inr h2⟩
      ·have hp':=gOk_mem hg (v:=w) (by omega) hp
       refine ⟨p.toNat,?_,.inl ⟨by omega,h2⟩⟩
       rw [mark_get]
       simp only [Bool.or_eq_true,Bool.and_eq_true,decide_eq_true_eq,List.any_eq_true]
       exact .inr ⟨by omega,p,hp,by simp; omega⟩
     ·exact ⟨w,by rw [mark_get,h1]; rfl,.inr h2⟩
    ·refine ⟨w,by rw [mark_get,h1]; rfl,?_⟩
     rcases h2 with ⟨h2,h3⟩ | h2
     ·exact .inl ⟨by omega,h3⟩
     ·exact .inr h2
  ·rw [step,if_neg q]
   constructor
   ·rintro ⟨w,h1,h2⟩
    refine ⟨w,h1,?_⟩
    rcases h2 with ⟨h2,h3⟩ | h2
    ·exact .inl ⟨by omega,h3⟩
    ·exact .inr h2
   ·rintro ⟨w,h1,h2⟩
    have hw:w≠m:=fun e=>q (e ▸ h1)
    refine ⟨w,h1,?_⟩
    rcases h2 with ⟨h2,h3⟩ | h2
    ·exact .inl ⟨by omega,h3⟩
    ·exact .inr h2
theorem setL_get {g:List (List Int)} (hg:gOk g=true) (l:List Int) (u:Nat):(setL g l).getD u false=true↔∃ x ∈ l,0≤x∧x < g.length∧(clo g x.toNat).testBit u=true:=by
 rw [setL,down_get hg _ _ (Nat.le_refl _) (by rw [mark_len]; simp)]
 constructor
 ·rintro ⟨w,h1,h2⟩
  rw [mark_get] at h1
  simp only [List.length_replicate,Bool.or_eq_true,Bool.and_eq_true,decide_eq_true_eq,List.any_eq_true] at h1
  rcases h1 with h1 | ⟨h0,x,hx,h1⟩
  ·rw [List.getD_eq_getElem?_getD,List.getElem?_replicate] at h1
   split at h1 <;> cases h1
  ·have h1:x=(w:Int):=by simpa using h1
   subst h1
   refine ⟨(w:Int),hx,by omega,by omega,?_⟩
   rw [Int.toNat_natCast]
   rcases h2 with ⟨_,h2⟩ | h2
   ·exact h2
   ·rw [h2]; exact clo_self hg h0
 ·rintro ⟨x,hx,h0,h1,h2⟩
  refine ⟨x.toNat,?_,.inl ⟨by omega,h2⟩⟩
  rw [mark_get]
  simp only [List.length_replicate,Bool.or_eq_true,Bool.and_eq_true,decide_eq_true_eq,List.any_eq_true]
  exact .inr ⟨by omega,x,hx,by simp; omega⟩
def trues (bs:List Bool) (n:Nat):List Nat:=(List.range n).filter fun v=>bs.getD v false
theorem trues_succ (bs:List Bool) (v:Nat):trues bs (v+1)=if bs.getD v false=true then trues bs v++[v] else trues bs v:=by
 simp only [trues,List.range_succ,List.filter_append]
 cases q:bs.getD v false <;> simp [q,-List.getD_eq_getElem?_getD]
theorem setL_bits {g:List (List Int)} (hg:gOk g=true) (l:List Int) (hl:∀ x ∈ l,0≤x∧x < (g.length:Int)):trues (setL g l) g.length=bitsL (orL (closN g g.length) l) 64:=by
 have hlen:=gOk_len hg
 unfold trues bitsL
 have e:(List.range 64)=List.range g.length++(List.range (64 - g.length)).map (g.length + ·):=by
  rw [← List.range_add]
  congr 1
  omega
 rw [e,List.filter_append]
 have h2:((List.range (64 - g.length)).map (g.length + ·)).filter (fun v=>(orL (closN g g.length) l).testBit v)=[]:=by
  rw [List.filter_eq_nil_iff]
  intro v hv
  obtain ⟨k,_,rfl⟩:=List.mem_map.1 hv
  intro q
  rw [orL_test,List.any_eq_true] at q
  obtain ⟨x,hx,q⟩:=q
  have:=hl x hx
  have:=clo_le hg (v:=x.toNat) (by omega) q
  omega
 rw [h2,List.append_nil]
 apply List.filter_congr
 intro v _
 rw [Bool.eq_iff_iff,setL_get hg,orL_test,List.any_eq_true]
 constructor
 ·rintro ⟨x,hx,_,_,h⟩
  exact ⟨x,hx,h⟩
 ·rintro ⟨x,hx,h⟩
  have:=hl x hx
  exact ⟨x,hx,this.1,this.2,h⟩
end Go.TV.F
namespace Go.TV.F
open Go.TV
def LB:Nat:=1000000000000000
theorem loopK1 {σ ρ:Type} {f:σ→Option (σ⊕ρ)} (I:σ→Prop) (m:σ→Nat) (Q:ρ→Prop) {s:σ} (h0:I s)
  (h:∀ s,I s→(∃ s',f s=some (.inl s')∧I s'∧m s' < m s)∨∃ r,f s=some (.inr r)∧Q r):∃ r,zW f s=some r∧Q r:=by
 have key:∀ n s,I s→m s=n→∃ r,zW f s=some r∧Q r:=by
  intro n
  induction n using Nat.strongRecOn with
  | _ n ih =>
   intro s hs hm
   rw [qX f]
   rcases h s hs with ⟨s',h1,h2,h3⟩ | ⟨r,h1,h2⟩
   ·rw [h1]
    exact ih (m s') (by omega) s' h2 rfl
   ·rw [h1]
    exact ⟨r,rfl,h2⟩
 exact key _ s h0 rfl
theorem tdivK (a b:Nat):((a:Int)).tdiv (b:Int)=((a / b:Nat):Int):=by
 rw [Int.tdiv_eq_ediv_of_nonneg (by omega)]
 rfl
theorem mkSK (l:List Int):(mkS l).size=l.length:=by
 show (List.toArray (l.map fun x=>UInt8.ofNat x.toNat)).size=_
 simp
theorem gset {α:Type} {l:List α} {i:Nat} {x:α} (h:i < l.length):(l.set i x)[i]? = some x:=by simp [h]
theorem inl3 {α β γ ρ:Type} {a a':α} {b b':β} {c c':γ} (h1:a=a') (h2:b=b') (h3:c=c'):(some (.inl (a,b,c)):Option ((α×β×γ)⊕ρ))=some (.inl (a',b',c')):=by rw [h1,h2,h3]
theorem inl2 {α β ρ:Type} {a a':α} {b b':β} (h1:a=a') (h2:b=b'):(some (.inl (a,b)):Option ((α×β)⊕ρ))=some (.inl (a',b')):=by rw [h1,h2]
theorem ltF {a:Int} (h:0≤a):decide (a < 0)=false:=by simp; omega
theorem sumK1 {α:Type} (a:List α):sumOf (fun _=>1) a=a.length:=by
 induction a with
 | nil=>rfl
 | cons x l ih=>simp [sumOf,ih]; omega
theorem sumOf_map {α β:Type} {w:β→Nat} {f:α→β} {v:α→Nat}:∀ (a:List α),(∀ x ∈ a,w (f x)≤v x)→sumOf w (a.map f)≤sumOf v a
 | [],_=>Nat.le_refl _
 | x :: l,h=>by
  have h1:=h x (by simp)
  have h2:=sumOf_map l (fun y hy=>h y (by simp [hy]))
  simp only [sumOf,List.map_cons]
  omega
theorem sumOf_map8 {α β:Type} {w:β→Nat} {f:α→β} {v:α→Nat}:∀ (a:List α),(∀ x ∈ a,w (f x)≤8 * v x+8)→sumOf w (a.map f)≤8 * (a.length+sumOf v a)
 | [],_=>by simp [sumOf]
 | x :: l,h=>by
  have h1:=h x (by simp)
  have h2:=sumOf_map8 l (fun y hy=>h y (by simp [hy]))
  simp only [sumOf,List.map_cons,List.length_cons]
  omega
end Go.TV.F
namespace Go.TV.F
open Go.TV
theorem inRange_eq (n a b:Int):impl_inRange n a b=some (decide (a≤n) && decide (n≤b)):=by
 unfold impl_inRange
 by_cases h:a≤n <;> simp [h]
theorem l01In_eq (n a b:Int):spec_l01In n a b=some (decide (a≤n) && decide (n≤b)):=by
 unfold spec_l01In
 by_cases h:a≤n <;> simp [h]
theorem isPlace_eq {n m:Int} (h0:0≤m) (h1:m≤1000000000):impl_isPlace n m=some (decide (0≤n) && decide (n < m)):=by
 unfold impl_isPlace
 rw [wk64 (by omega) (by omega),inRange_eq]
 have:decide (n≤m - 1)=decide (n < m):=by simp only [decide_eq_decide]; omega
 rw [this]
 rfl
theorem riseAt_nat {l:List Int} {n:Int} {i:Nat} (hi:i < l.length):riseAt l n i=(decide (0≤l[i]) && decide (l[i]≤n - 1) && (i == 0 || decide (l.getD (i - 1) 0 < l[i]))):=by
 have e:l.getD i 0=l[i]:=by simp [hi]
 simp only [riseAt,e]
theorem ascends_eq {l:List Int} {n:Int} (hl:l.length≤1000000000) (hn:0≤n) (hn2:n≤1000000000):impl_ascends l n=some (rise l n):=by
 unfold impl_ascends
 have hb:∀ k:Nat,k < l.length→jH l n k=some (if riseAt l n k=true then .inl ((k+1:Nat):Int) else .inr (.inl false)):=by
  intro k hk
  unfold jH
  rw [ifT (by simpa using hk),zQ,List.getElem?_eq_getElem hk,Option.bind_some,wk64 (x:=n - 1) (by omega) (by omega),inRange_eq,Option.bind_some,riseAt_nat hk]
  cases h1:(decide (0≤l[k]) && decide (l[k]≤n - 1)) with
  | false=>simp
  | true =>
   rcases Nat.eq_zero_or_pos k with rfl | hp
   ·simp [wk64]
   ·obtain ⟨j,rfl⟩:∃ j,k=j+1:=⟨k - 1,by omega⟩
    rw [wk64 (x:=((j+1:Nat):Int) - 1) (by omega) (by omega),show ((j+1:Nat):Int) - 1=(j:Int) by omega,zQ,List.getElem?_eq_getElem (by omega)]
    rw [wk64 (by omega) (by omega)]
    have e:l.getD (j+1 - 1) 0=l[j]:=by simp [show j < l.length by omega]
    rw [e]
    by_cases q:l[j] < l[j+1]
    ·simp [q,show ¬l[j+1]≤l[j] by omega]
    ·simp [q,show l[j+1]≤l[j] by omega]
 have:=loopM_all (body:=fun s'=>jH l n s') (good:=.inr ()) (bad:=.inl false) (fun k=>(k:Int)) l.length (riseAt l n) (fun k hk _ hp=>by show jH l n k=_; rw [hb k hk,if_pos hp]) (fun k hk _ hp=>by show jH l n k=_; rw [hb k hk,hp]; rfl) (fun _=>by
  show jH l n l.length=_
  unfold jH
  rw [ifF (by simp)])
 rw [show (0:Int)=((0:Nat):Int) from rfl,this,Option.bind_some]
 unfold rise
 cases (List.range l.length).all (riseAt l n) <;> rfl
theorem l05Rise_eq {l:List Int} {n:Int} (hl:l.length≤1000000000) (hn:0≤n) (hn2:n≤1000000000):spec_l05Rise l n=some (rise l n):=by
 unfold spec_l05Rise
 have hb:∀ k:Nat,k < l.length→jG l n k=some (if riseAt l n k=true then .inl ((k+1:Nat):Int) else .inr (.inl false)):=by
  intro k hk
  unfold jG
  rw [ifT (by simpa using hk),zQ,List.getElem?_eq_getElem hk,Option.bind_some,wk64 (x:=n - 1) (by omega) (by omega),l01In_eq,Option.bind_some,riseAt_nat hk]
  cases h1:(decide (0≤l[k]) && decide (l[k]≤n - 1)) with
  | false=>simp
  | true =>
   rcases Nat.eq_zero_or_pos k with rfl | hp
   ·simp [wk64]
   ·obtain ⟨j,rfl⟩:∃ j,k=j+1:=⟨k - 1,by omega⟩
    rw [wk64 (x:=((j+1:Nat):Int) - 1) (by omega) (by omega),show ((j+1:Nat):Int) - 1=(j:Int) by omega,zQ,List.getElem?_eq_getElem (by omega)]
    rw [wk64 (by omega) (by omega)]
    have e:l.getD (j+1 - 1) 0=l[j]:=by simp [show j < l.length by omega]
    rw [e]
    by_cases q:l[j] < l[j+1]
    ·simp [q,show ¬l[j+1]≤l[j] by omega]
    ·simp [q,show l[j+1]≤l[j] by omega]
 have:=loopM_all (body:=fun s'=>jG l n s') (good:=.inr ()) (bad:=.inl false) (fun k=>(k:Int)) l.length (riseAt l n) (fun k hk _ hp=>by show jG l n k=_; rw [hb k hk,if_pos hp]) (fun k hk _ hp=>by show jG l n k=_; rw [hb k hk,hp]; rfl) (fun _=>by
  show jG l n l.length=_
  unfold jG
  rw [ifF (by simp)])
 rw [show (0:Int)=((0:Nat):Int) from rfl,this,Option.bind_some]
 unfold rise
 cases (List.range l.length).all (riseAt l n) <;> rfl
theorem gAt_nat {g:List (List Int)} {v:Nat} (hv:v < g.length):gAt g v=(decide (g[v].length≤4) && rise g[v] v):=by
 have:g.getD v []=g[v]:=by simp [hv]
 unfold gAt
 rw [this]
theorem graphOkI_eq {g:List (List Int)} (hl:g.length≤10000000):impl_GraphOk g=some (gOk g):=by
 unfold impl_GraphOk
 have hb:∀ k:Nat,k < g.length→jJ g k=some (if gAt g k=true then .inl ((k+1:Nat):Int) else .inr (.inl false)):=by
  intro k hk
  unfold jJ
  rw [ifT (by simpa using hk),zQ,List.getElem?_eq_getElem hk,Option.bind_some,gAt_nat hk]
  by_cases h4:g[k].length≤4
  ·rw [ascends_eq (by omega) (by omega) (by omega),wk64 (by omega) (by omega)]
   cases q:rise g[k] k <;> simp [h4,show ¬(4:Int) < (g[k].length:Int) by omega]
  ·simp [h4,show (4:Int) < (g[k].length:Int) by omega]
 have:=loopM_all (body:=fun s'=>jJ g s') (good:=.inr ()) (bad:=.inl false) (fun k=>(k:Int)) g.length (gAt g) (fun k hk _ hp=>by show jJ g k=_; rw [hb k hk,if_pos hp]) (fun k hk _ hp=>by show jJ g k=_; rw [hb k hk,hp]; rfl) (fun _=>by
  show jJ g g.length=_
  unfold jJ
  rw [ifF (by simp)])
 rw [show (0:Int)=((0:Nat):Int) from rfl,this,Option.bind_some]
 unfold gOk
 cases (List.range g.length).all (gAt g)
 ·simp
 ·simp [impl_GraphOk_j1,show (g.length:Int)≤40↔g.length≤40 by omega]
theorem graphOkS_eq {g:List (List Int)} (hl:g.length≤10000000):spec_GraphOk g=some (gOk g):=by
 unfold spec_GraphOk
 by_cases h40:g.length≤40
 ·rw [ifF (by simp; omega)]
  have hb:∀ k:Nat,k < g.length→jI g k=some (if gAt g k=true then .inl ((k+1:Nat):Int) else .inr (.inl false)):=by
   intro k hk
   unfold jI
   rw [ifT (by simpa using hk),zQ,List.getElem?_eq_getElem hk,Option.bind_some,gAt_nat hk]
   by_cases h4:g[k].length≤4
   ·rw [l05Rise_eq (by omega) (by omega) (by omega),wk64 (by omega) (by omega)]
    cases q:rise g[k] k <;> simp [h4,show ¬(4:Int) < (g[k].length:Int) by omega]
   ·simp [h4,show (4:Int) < (g[k].length:Int) by omega]
  have:=loopM_all (body:=fun s'=>jI g s') (good:=.inr ()) (bad:=.inl false) (fun k=>(k:Int)) g.length (gAt g) (fun k hk _ hp=>by show jI g k=_; rw [hb k hk,if_pos hp]) (fun k hk _ hp=>by show jI g k=_; rw [hb k hk,hp]; rfl) (fun _=>by
   show jI g g.length=_
   unfold jI
   rw [ifF (by simp)])
  rw [show (0:Int)=((0:Nat):Int) from rfl,this,Option.bind_some]
  unfold gOk
  cases (List.range g.length).all (gAt g) <;> simp [h40,spec_GraphOk_j1]
 ·rw [ifT (by simp; omega)]
  simp [gOk,h40]
abbrev us (c:List Nat):List Int:=c.map fun (s:Nat)=>(s:Int)
theorem unionOf_eq {c:List Nat} {l:List Int} (hc:∀ x ∈ c,x < 2 ^ 64) (hl:∀ x ∈ l,0≤x∧x < (c.length:Int)) (hll:l.length≤1000000000):impl_unionOf (us c) l=some ((orL c l:Nat):Int):=by
 unfold impl_unionOf
 have:=loopM_at (body:=fun (s':Int×Int)=>impl_unionOf_l1 (us c) l s'.1 s'.2) (r:=((orL c l:Nat):Int)) (fun k=>(((orL c (l.take k):Nat):Int),(k:Int))) l.length (fun k hk=>by
  show impl_unionOf_l1 (us c) l ((orL c (l.take k):Nat):Int) k=_
  unfold impl_unionOf_l1
  have hk2:=hl _ (List.getElem_mem hk)
  have e:c.getD l[k].toNat 0=c[l[k].toNat]'(by omega):=by simp [show l[k].toNat < c.length by omega]
  rw [ifT (by simpa using hk),zQ,List.getElem?_eq_getElem hk,Option.bind_some,geti_in hk2.1 (by simp; omega),Option.bind_some,wk64 (by omega) (by omega),List.getElem_map,
   or_u64 (orL_lt hc _) (hc _ (List.getElem_mem _)),orL_take hk,e]
  rfl) (by
  show impl_unionOf_l1 (us c) l ((orL c (l.take l.length):Nat):Int) l.length=_
  unfold impl_unionOf_l1
  rw [ifF (by simp),List.take_length])
 have e0:((0:Int),(0:Int))=(((orL c (l.take 0):Nat):Int),((0:Nat):Int)):=rfl
 rw [e0,this]
 rfl
theorem closures_eq {g:List (List Int)} (hg:gOk g=true):impl_closures g=some (us (closN g g.length)):=by
 have h40:=gOk_len hg
 unfold impl_closures
 rw [mkl_in (by omega) (by omega),Option.bind_some,Int.toNat_natCast]
 have:=loopM_at (body:=fun (s':Int×(List Int))=>impl_closures_l1 g s'.1 s'.2) (r:=us (closN g g.length)) (fun k=>((k:Int),us (closN g k))) g.length (fun k hk=>by
  show impl_closures_l1 g k (us (closN g k))=_
  unfold impl_closures_l1
  have hlt:=closN_lt h40 k (by omega)
  have hm:∀ x ∈ g[k],0≤x∧x < ((closN g k).length:Int):=fun x hx=>by
   have:=gOk_mem hg hk hx
   rw [closN_len]
   omega
  have e:g.getD k []=g[k]:=by simp [hk]
  rw [ifT (by simpa using hk),zQ,List.getElem?_eq_getElem hk,Option.bind_some,unionOf_eq hlt hm (by have:=(gOk_at hg hk).1; omega),Option.bind_some,wku64 (by omega) (by omega),chk_in (by omega),Option.bind_some,
   geti_in (by omega) (by simp [closN_len]; omega),Option.bind_some,shl_one (by omega),or_u64 (orL_lt hlt _) (Nat.pow_lt_pow_right (by decide) (by omega)),wk64 (by omega) (by omega),Int.toNat_natCast,closN,e]
  simp [us,List.map_set]) (by
  show impl_closures_l1 g g.length (us (closN g g.length))=_
  unfold impl_closures_l1
  rw [ifF (by simp)])
 have e0:((0:Int),List.replicate g.length (0:Int))=(((0:Nat):Int),us (closN g 0)):=by simp [us,closN]
 rw [e0,this]
 rfl
theorem setHas_eq {s:Nat} {v:Int} (hs:s < 2 ^ 64):impl_set_has (s:Int) v=some (decide (0≤v) && decide (v≤63) && s.testBit v.toNat):=by
 unfold impl_set_has
 rw [inRange_eq,Option.bind_some]
 cases h:(decide (0≤v) && decide (v≤63)) with
 | false=>rfl
 | true =>
  have h':0≤v∧v≤63:=by simpa using h
  obtain ⟨n,rfl⟩:∃ n:Nat,v=n:=⟨v.toNat,by omega⟩
  rw [if_pos rfl,wku64 (by omega) (by omega),chk_in (by omega),Option.bind_some,shr_test s n hs (by omega),Int.toNat_natCast]
  rfl
theorem ints_snoc (l:List Nat) (v:Nat):ints (l++[v])=ints l++[(v:Int)]:=by simp [ints]
theorem ints_len (l:List Nat):(ints l).length=l.length:=by simp [ints]
theorem setList_eq {s:Nat} (hs:s < 2 ^ 64):impl_set_list (s:Int)=some (ints (bitsL s 64)):=by
 unfold impl_set_list
 have:=loopM_at (body:=fun (s':Int×(List Int))=>impl_set_list_l1 (s:Int) s'.1 s'.2) (r:=ints (bitsL s 64)) (fun k=>((k:Int),ints (bitsL s k))) 64 (fun k hk=>by
  show impl_set_list_l1 (s:Int) k (ints (bitsL s k))=_
  unfold impl_set_list_l1
  have hlen:=bitsL_len s k
  have hh:(decide (0≤(k:Int)) && decide ((k:Int)≤63))=true:=by simp; omega
  rw [ifT (by simp; omega),setHas_eq hs,Option.bind_some,hh,Bool.true_and,Int.toNat_natCast,appn_in (by simp [ints_len]; omega),Option.bind_some,wk64 (by omega) (by omega),bitsL_succ]
  cases s.testBit k
  ·simp
  ·simp [ints_snoc]) (by
  show impl_set_list_l1 (s:Int) ((64:Nat):Int) (ints (bitsL s 64))=_
  unfold impl_set_list_l1
  rw [ifF (by simp)])
 have e0:((0:Int),([]:List Int))=(((0:Nat):Int),ints (bitsL s 0)):=rfl
 rw [e0,this]
 rfl
theorem mark_keep {b:List Bool} {l:List Int} {v:Nat} (h:b.getD v false=true):(mark b l).getD v false=true:=by rw [mark_get,h]; rfl
theorem l05Set_eq {g:List (List Int)} {l:List Int} (hg:gOk g=true) (hl:l.length≤1000000000):spec_l05Set g l=some (setL g l):=by
 have h40:=gOk_len hg
 unfold spec_l05Set
 rw [mkl_in (by omega) (by omega),Option.bind_some,Int.toNat_natCast]
 have h1:=loopM_at (body:=fun (s':Int×(List Bool))=>spec_l05Set_l3 g l s'.1 s'.2) (r:=mark (List.replicate g.length false) l) (fun k=>((k:Int),mark (List.replicate g.length false) (l.take k))) l.length (fun k hk=>by
  show spec_l05Set_l3 g l k (mark (List.replicate g.length false) (l.take k))=_
  unfold spec_l05Set_l3
  rw [ifT (by simpa using hk),zQ,List.getElem?_eq_getElem hk,Option.bind_some,wk64 (x:=(g.length:Int) - 1) (by omega) (by omega),l01In_eq,Option.bind_some,wk64 (by omega) (by omega),mark_take hk,List.length_replicate]
  by_cases h:0≤l[k]∧l[k] < (g.length:Int)
  ·rw [if_pos h,ifT (by simp; omega),geti_in h.1 (by rw [mark_len]; simp; omega)]
   rfl
  ·rw [if_neg h,ifF (by simp; omega)]
   rfl) (by
  show spec_l05Set_l3 g l l.length (mark (List.replicate g.length false) (l.take l.length))=_
  unfold spec_l05Set_l3
  rw [ifF (by simp),List.take_length])
 have e0:((0:Int),List.replicate g.length false)=(((0:Nat):Int),mark (List.replicate g.length false) (l.take 0)):=rfl
 rw [e0,h1,Option.bind_some]
 unfold spec_l05Set_j1
 have hlen0:(mark (List.replicate g.length false) l).length=g.length:=by rw [mark_len]; simp
 -- the states of the second loop
 let B:Nat→List Bool:=fun k=>Nat.rec (mark (List.replicate g.length false) l) (fun k b=>step g b (g.length - 1 - k)) k
 have B0:B 0=mark (List.replicate g.length false) l:=rfl
 have BS:∀ k,B (k+1)=step g (B k) (g.length - 1 - k):=fun k=>rfl
 have Blen:∀ k,(B k).length=g.length:=by
  intro k
  induction k with
  | zero=>exact hlen0
  | succ k ih =>
   rw [BS,step]
   split
   ·rw [mark_len]; exact ih
   ·exact ih
 have Bd:∀ m k,k+m=g.length→down g m (B k)=down g 0 (B g.length):=by
  intro m
  induction m with
  | zero=>intro k hk; rw [Nat.add_zero] at hk; subst hk; rfl
  | succ m ih =>
   intro k hk
   have:=ih (k+1) (by omega)
   rw [BS,show g.length - 1 - k=m by omega] at this
   exact this
 have h2:=loopM_at (body:=fun (s':Int×(List Bool))=>spec_l05Set_l1 g s'.1 s'.2) (r:=B g.length) (fun k=>((g.length:Int) - 1 - k,B k)) g.length (fun k hk=>by
  show spec_l05Set_l1 g ((g.length:Int) - 1 - k) (B k)=_
  unfold spec_l05Set_l1
  obtain ⟨v,hv⟩:∃ v,g.length - 1 - k=v:=⟨_,rfl⟩
  have ev:(g.length:Int) - 1 - k=(v:Int):=by omega
  have hvl:v < g.length:=by omega
  have Bl:=Blen k
  rw [ev,ifT (by simp)]
  have egv:g.getD v []=g[v]:=by simp [hvl]
  have h3:=loopM_at (body:=fun (s':Int×(List Bool))=>spec_l05Set_l2 g v s'.1 s'.2) (r:=step g (B k) v) (fun j=>((j:Int),mark (B k) (g[v].take j))) (if (B k).getD v false=true then g[v].length else 0) (fun j hj=>by
   show spec_l05Set_l2 g v j (mark (B k) (g[v].take j))=_
   unfold spec_l05Set_l2
   split at hj
   case isFalse=>omega
   rename_i hb
   have hmem:=gOk_mem hg hvl (List.getElem_mem hj)
   have hml:(mark (B k) (g[v].take j)).length=g.length:=by rw [mark_len]; exact Bl
   have hkeep:(mark (B k) (g[v].take j))[v]? = some true:=by
    have:=mark_keep (l:=g[v].take j) hb
    rw [List.getD_eq_getElem?_getD] at this
    rw [List.getElem?_eq_getElem (by omega)] at this ⊢
    simpa using this
   rw [zQ,List.getElem?_eq_getElem hvl,Option.bind_some,ifT (by simpa using hj),zQ,hkeep]
   simp only [Option.bind_some]
   rw [if_pos trivial,zQ,List.getElem?_eq_getElem hj,Option.bind_some,geti_in hmem.1 (by omega),Option.bind_some,wk64 (by have:=(gOk_at hg hvl).1; omega) (by have:=(gOk_at hg hvl).1; omega),mark_take hj,if_pos (by omega)]
   rfl) (by
   show spec_l05Set_l2 g v ((if (B k).getD v false=true then g[v].length else 0:Nat):Int) (mark (B k) (g[v].take (if (B k).getD v false=true then g[v].length else 0)))=_
   unfold spec_l05Set_l2 step
   rw [zQ,List.getElem?_eq_getElem hvl,Option.bind_some]
   split
   ·rename_i hb
    rw [List.take_length,ifF (by simp),egv]
    simp
   ·rename_i hb
    have hf:(B k)[v]? = some false:=by
     rw [List.getD_eq_getElem?_getD,List.getElem?_eq_getElem (by omega)] at hb
     rw [List.getElem?_eq_getElem (by omega)]
     simpa using hb
    rw [List.take_zero,show mark (B k) []=B k from rfl,zQ,hf]
    by_cases q:(((0:Nat):Int) < (g[v].length:Int)) <;> simp [q])
  have e2:((0:Int),B k)=(((0:Nat):Int),mark (B k) (g[v].take 0)):=rfl
  rw [e2,h3,Option.bind_some]
  unfold spec_l05Set_j3
  rw [wk64 (by omega) (by omega),BS,hv,show ((v:Int) - 1)=(g.length:Int) - 1 - ((k+1:Nat):Int) by omega]) (by
  show spec_l05Set_l1 g ((g.length:Int) - 1 - g.length) (B g.length)=_
  unfold spec_l05Set_l1
  rw [ifF (by simp; omega)])
 have e3:(wk .i64 ((g.length:Int) - 1),mark (List.replicate g.length false) l)=((g.length:Int) - 1 - ((0:Nat):Int),B 0):=by rw [wk64 (by omega) (by omega),B0]; simp
 rw [e3,h2,Option.bind_some]
 unfold spec_l05Set_j2 setL
 have:=Bd g.length 0 (by omega)
 rw [B0] at this
 rw [this]
 rfl
end Go.TV.F
namespace Go.TV.F
open Go.TV
theorem wkS (k:Nat) (h:k < 1000000000):wk .i64 ((k:Int)+1)=((k+1:Nat):Int):=by rw [wk64 (by omega) (by omega)]; omega
theorem toList_loop (bs:ByteArray):∀ (m i:Nat) (r:List UInt8),i+m=bs.size→ByteArray.toList.loop bs i r=r.reverse++bs.data.toList.drop i
 | 0,i,r,h=>by
  rw [ByteArray.toList.loop,if_neg (by omega),List.drop_eq_nil_of_le (by show bs.data.toList.length≤i; have:bs.data.toList.length=bs.size:=rfl; omega),List.append_nil]
 | m+1,i,r,h=>by
  have hi:i < bs.data.toList.length:=by have:bs.data.toList.length=bs.size:=rfl; omega
  rw [ByteArray.toList.loop,if_pos (by omega),toList_loop bs m (i+1) _ (by omega),List.drop_eq_getElem_cons hi]
  have e:bs.get! i=bs.data.toList[i]:=by
   show bs.data[i]! = _
   rw [getElem!_pos bs.data i (by simpa using hi)]
   simp
  rw [e]
  simp
theorem toList_eq (bs:ByteArray):bs.toList=bs.data.toList:=by
 unfold ByteArray.toList
 rw [toList_loop bs bs.size 0 [] (by omega)]
 simp
def nb (s:ByteArray):List Nat:=s.data.toList.map UInt8.toNat
theorem nb_len (s:ByteArray):(nb s).length=s.size:=by simp [nb]
theorem nb_inj {s t:ByteArray} (h:nb s=nb t):s=t:=by
 have:s.data.toList=t.data.toList:=List.map_inj_right (fun a b hab=>UInt8.toNat_inj.1 hab) |>.1 h
 exact ByteArray.ext (Array.toList_inj.1 this)
theorem beq_nb (s t:ByteArray):(s.toList == t.toList)=decide (nb s=nb t):=by
 rw [toList_eq,toList_eq]
 by_cases h:nb s=nb t
 ·have:=nb_inj h
  subst this
  simp
 ·rw [decide_eq_false h,beq_eq_false_iff_ne]
  intro he
  exact h (by unfold nb; rw [he])
theorem sidx_nb {s:ByteArray} {k:Nat} (h:k < s.size):∃ b:Nat,sidx s (k:Int)=some (b:Int)∧(nb s)[k]? = some b∧b < 256:=by
 unfold sidx
 rw [if_neg (by omega),Int.toNat_natCast,if_pos h]
 have hk:k < s.data.size:=h
 refine ⟨(s.data[k]).toNat,?_,?_,UInt8.toNat_lt _⟩
 ·unfold bt
  congr 2
  rw [Array.getD_eq_getD_getElem?,Array.getElem?_eq_getElem hk]
  rfl
 ·simp [nb,hk,Array.getElem?_eq_getElem hk]
theorem nb_extract (s:ByteArray) (a b:Nat):nb (s.extract a b)=((nb s).drop a).take (b - a):=by
 have:(s.extract a b).data=s.data.extract a b:=ByteArray.data_extract
 unfold nb
 rw [this,Array.toList_extract]
 simp [List.extract]
def lineB (s:ByteArray):Bool:=decide (s.size≤60) && decide ((10:Nat) ∉ nb s)
theorem lineS_eq {s:ByteArray} (h:s.size≤1000000000):spec_LineOk s=some (lineB s):=by
 unfold spec_LineOk lineB
 have hl:=nb_len s
 have:=loopM_all (body:=fun s'=>spec_LineOk_l1 s s') (good:=.inr ()) (bad:=.inl false) (fun k=>(k:Int)) s.size (fun k=>decide ((nb s)[k]?≠some 10)) (fun k hk _ hp=>by
  obtain ⟨b,g1,g2,_⟩:=sidx_nb hk
  unfold spec_LineOk_l1
  rw [ifT (by simpa using hk),g1,Option.bind_some]
  rw [g2] at hp
  have hb:¬b=10:=by simpa using hp
  rw [ifF (by simp; omega),wkS k (by omega)]) (fun k hk _ hp=>by
  obtain ⟨b,g1,g2,_⟩:=sidx_nb hk
  unfold spec_LineOk_l1
  rw [ifT (by simpa using hk),g1,Option.bind_some]
  rw [g2] at hp
  have hb:b=10:=by simpa using hp
  rw [ifT (by simp; omega)]) (fun _=>by
  unfold spec_LineOk_l1
  rw [ifF (by simp)])
 have e0:((0:Nat):Int)=0:=rfl
 rw [e0] at this
 rw [this]
 have hiff:((List.range s.size).all fun k=>decide ((nb s)[k]?≠some 10))=decide ((10:Nat) ∉ nb s):=by
  rw [Bool.eq_iff_iff,List.all_eq_true,decide_eq_true_eq]
  constructor
  ·intro hh hm
   obtain ⟨k,hk,hk2⟩:=List.getElem_of_mem hm
   have:=hh k (List.mem_range.2 (by omega))
   rw [List.getElem?_eq_getElem hk,hk2] at this
   simp at this
  ·intro hh k hk
   simp only [decide_eq_true_eq]
   intro hq
   exact hh (List.mem_of_getElem? hq)
 rw [hiff]
 unfold spec_LineOk_j1
 cases decide ((10:Nat) ∉ nb s) with
 | true =>
  simp
  omega
 | false=>simp
theorem contains_one (l:List UInt8) (c:UInt8):Go.Lib.contains l [c]=decide (c.toNat ∈ l.map UInt8.toNat):=by
 unfold Go.Lib.contains
 induction l with
 | nil=>rfl
 | cons b l ih =>
  have hp:[c].isPrefixOf (b :: l)=(c == b):=by simp [List.isPrefixOf]
  unfold Go.Lib.index
  rw [hp,List.map_cons]
  by_cases h:c=b
  ·subst h
   simp
  ·have h':(c == b)=false:=by simpa using h
   have hn:c.toNat≠b.toNat:=fun q=>h (UInt8.toNat_inj.1 q)
   rw [h',if_neg (by simp)]
   have hm:decide (c.toNat ∈ b.toNat :: l.map UInt8.toNat)=decide (c.toNat ∈ l.map UInt8.toNat):=by
    rw [decide_eq_decide,List.mem_cons]
    exact ⟨fun q=>q.resolve_left hn,.inr⟩
   rw [hm,← ih]
   have hge:=Go.Lib.index_ge l [c]
   by_cases hr:Go.Lib.index l [c] = -1
   ·rw [hr]; rfl
   ·rw [if_neg (by simpa using hr)]
    rw [decide_eq_decide]
    omega
theorem lineI_eq {s:ByteArray}:impl_LineOk s=some (lineB s):=by
 unfold impl_LineOk lineB
 by_cases q:s.size≤60
 ·rw [ifT (by simp; omega)]
  have hc:strings_Contains s (ByteArray.mk #[10])=some (decide ((10:Nat) ∈ nb s)):=by
   unfold strings_Contains
   rw [if_pos (by omega)]
   exact congrArg some (contains_one s.data.toList 10)
  rw [hc]
  simp only [Option.bind_some]
  have:decide (s.size≤60)=true:=decide_eq_true q
  rw [this,Bool.true_and]
  congr 1
  by_cases h:(10:Nat) ∈ nb s <;> simp [h]
 ·rw [ifF (by simp; omega)]
  simp [q]
theorem all_range {α:Type} (l:List α) (p:α→Bool):((List.range l.length).all fun k=>(l[k]?.map p).getD true)=l.all p:=by
 rw [Bool.eq_iff_iff,List.all_eq_true,List.all_eq_true]
 constructor
 ·intro h x hx
  obtain ⟨k,hk,rfl⟩:=List.getElem_of_mem hx
  have:=h k (List.mem_range.2 hk)
  rw [List.getElem?_eq_getElem hk] at this
  exact this
 ·intro h k hk
  rw [List.getElem?_eq_getElem (List.mem_range.1 hk)]
  exact h _ (List.getElem_mem _)
end Go.TV.F
namespace Go.TV.F
open Go.TV
theorem orO (a b:Bool):(if a=true then some true else some b)=some (a || b):=by cases a <;> rfl
theorem andO (a b:Bool):(if a=true then some b else some false)=some (a && b):=by cases a <;> rfl
theorem fin_if {γ:Type} {c q:Bool} {A B:γ} (h:c=!q):(if c=true then some B else some A)=some (if q=true then A else B):=by subst h; cases q <;> rfl
theorem all_loopN {β:Type} {body:Int→Option (Int⊕(β⊕Unit))} {bad:β} (n:Nat) (p:Nat→Bool)
  (hs:∀ k,k < n→(∀ j,j < k→p j=true)→body (k:Int)=some (if p k=true then .inl ((k+1:Nat):Int) else .inr (.inl bad)))
  (he:body (n:Int)=some (.inr (.inr ()))):zW body 0=some (if (List.range n).all p=true then .inr () else .inl bad):=
 loopM_all (ρ:=β⊕Unit) (good:=Sum.inr ()) (bad:=Sum.inl bad) (fun k=>(k:Int)) n p (fun k hk hj hp=>by rw [hs k hk hj,if_pos hp]) (fun k hk hj hp=>by rw [hs k hk hj,hp]; rfl) (fun _=>he)
theorem all_loopL {α β:Type} {body:Int→Option (Int⊕(β⊕Unit))} {bad:β} (l:List α) (q:α→Bool)
  (hs:∀ (k:Nat) (x:α),l[k]? = some x→k < l.length→body (k:Int)=some (if q x=true then .inl ((k+1:Nat):Int) else .inr (.inl bad)))
  (he:body (l.length:Int)=some (.inr (.inr ()))):zW body 0=some (if l.all q=true then .inr () else .inl bad):=by
 rw [← all_range l q]
 exact all_loopN l.length _ (fun k hk _=>by rw [hs k l[k] (List.getElem?_eq_getElem hk) hk,List.getElem?_eq_getElem hk]; rfl) he
theorem all_loopB {β:Type} {body:Int→Option (Int⊕(β⊕Unit))} {bad:β} (s:ByteArray) (q:Nat→Bool)
  (hs:∀ (k b:Nat),k < s.size→sidx s (k:Int)=some (b:Int)→(nb s)[k]? = some b→b < 256→body (k:Int)=some (if q b=true then .inl ((k+1:Nat):Int) else .inr (.inl bad)))
  (he:body (s.size:Int)=some (.inr (.inr ()))):zW body 0=some (if (nb s).all q=true then .inr () else .inl bad):=by
 have hl:=nb_len s
 refine all_loopL (nb s) q (fun k x hx hk=>?_) (by rw [hl]; exact he)
 obtain ⟨b,h1,h2,h3⟩:=sidx_nb (s:=s) (k:=k) (by omega)
 rw [h2] at hx
 injection hx with hx
 subst hx
 exact hs k b (by omega) h1 h2 h3
theorem map_loop {α β ρ:Type} {body:Int×List β→Option ((Int×List β)⊕ρ)} (l:List α) (f:α→β) (fin:List β→ρ) (hl:l.length≤1000000000)
  (hs:∀ (k:Nat) (x:α) (out:List β),l[k]? = some x→k < l.length→out.length≤1000000000→body ((k:Int),out)=some (.inl (((k+1:Nat):Int),out++[f x])))
  (he:∀ out:List β,body ((l.length:Int),out)=some (.inr (fin out))):zW body (0,[])=some (fin (l.map f)):=by
 have h:=loopM_at (body:=body) (r:=fin (l.map f)) (fun k=>((k:Int),(l.take k).map f)) l.length (fun k hk=>by
  rw [hs k l[k] _ (List.getElem?_eq_getElem hk) hk (by simp; omega),List.take_add_one,List.getElem?_eq_getElem hk,List.map_append]
  rfl) (by rw [List.take_length]; exact he _)
 simpa using h
theorem bl_tri:∀ a b:List UInt8,(Op.bytesLess a b || a == b)=!Op.bytesLess b a
 | [],[]=>rfl
 | [],b :: y=>rfl
 | a :: x,[]=>rfl
 | a :: x,b :: y=>by
  have ih:=bl_tri x y
  simp only [Op.bytesLess]
  rcases Nat.lt_trichotomy a.toNat b.toNat with h | h | h
  ·have h1:a < b:=h
   have h2:¬b < a:=fun q=>by have q':b.toNat < a.toNat:=q; omega
   have h3:¬b=a:=fun q=>by subst q; omega
   simp [h1,h2,h3]
  ·have h3:a=b:=UInt8.toNat_inj.1 h
   subst h3
   have h1:¬a < a:=fun q=>by have q':a.toNat < a.toNat:=q; omega
   simp [h1]
   rw [← ih]
   try (cases Op.bytesLess x y <;> simp)
  ·have h1:b < a:=h
   have h2:¬a < b:=fun q=>by have q':a.toNat < b.toNat:=q; omega
   have h3:¬a=b:=fun q=>by subst q; omega
   simp [h1,h2,h3]
theorem getD_in {α:Type} {l:List α} {i:Nat} {d:α} (h:i < l.length):l.getD i d=l[i]:=by
 rw [List.getD_eq_getElem?_getD,List.getElem?_eq_getElem h]
 rfl
theorem getD_some {α:Type} {l:List α} {i:Nat} {d x:α} (h:l[i]? = some x):l.getD i d=x:=by
 rw [List.getD_eq_getElem?_getD,h]
 rfl
def fidx {α:Type} (p:α→Bool):List α→Int
 | []=>-1
 | x :: l=>if p x=true then 0 else if fidx p l = -1 then -1 else fidx p l+1
theorem fidx_ge {α:Type} (p:α→Bool):∀ l:List α,-1≤fidx p l
 | []=>by simp [fidx]
 | x :: l=>by
  have:=fidx_ge p l
  unfold fidx
  split
  ·omega
  ·split <;> omega
theorem fidx_lt {α:Type} (p:α→Bool):∀ l:List α,fidx p l < l.length
 | []=>by simp [fidx]
 | x :: l=>by
  have:=fidx_lt p l
  unfold fidx
  rw [List.length_cons]
  split
  ·omega
  ·split <;> omega
theorem fidx_none {α:Type} (p:α→Bool):∀ l:List α,fidx p l = -1↔∀ x ∈ l,p x=false
 | []=>by simp [fidx]
 | x :: l=>by
  have ih:=fidx_none p l
  have hg:=fidx_ge p l
  unfold fidx
  by_cases h:p x=true
  ·rw [if_pos h]
   constructor
   ·intro h; omega
   ·intro q
    have:=q x (by simp)
    rw [h] at this
    cases this
  ·rw [if_neg h]
   have h':p x=false:=by simpa using h
   by_cases q:fidx p l = -1
   ·rw [if_pos q]
    have:=ih.1 q
    simp [h',this]
    exact this
   ·rw [if_neg q]
    constructor
    ·intro h; omega
    ·intro r
     exact absurd (ih.2 fun y hy=>r y (by simp [hy])) q
theorem fidx_some {α:Type} (p:α→Bool):∀ (l:List α) (k:Nat),fidx p l=k↔∃ h:k < l.length,p l[k]=true∧∀ (j:Nat) (hj:j < k),p (l[j]'(by omega))=false
 | [],k=>by
  constructor
  ·intro h
   have:fidx p ([]:List α) = -1:=rfl
   omega
  ·rintro ⟨h,_⟩
   simp at h
 | x :: l,k=>by
  have hg:=fidx_ge p l
  unfold fidx
  by_cases h:p x=true
  ·rw [if_pos h]
   constructor
   ·intro hk
    have:k=0:=by omega
    subst this
    exact ⟨by simp,h,fun j hj=>by omega⟩
   ·rintro ⟨h1,h2,h3⟩
    rcases Nat.eq_zero_or_pos k with rfl | hk
    ·rfl
    ·have:=h3 0 hk
     simp only [List.getElem_cons_zero] at this
     rw [h] at this
     cases this
  ·have h':p x=false:=by simpa using h
   rw [if_neg h]
   cases k with
   | zero =>
    constructor
    ·intro hk
     split at hk <;> omega
    ·rintro ⟨_,h2,_⟩
     simp only [List.getElem_cons_zero] at h2
     rw [h'] at h2
     cases h2
   | succ k =>
    have ih:=fidx_some p l k
    constructor
    ·intro hk
     have hk':fidx p l=k:=by
      split at hk <;> omega
     obtain ⟨h1,h2,h3⟩:=ih.1 hk'
     refine ⟨by simp; omega,by simpa using h2,fun j hj=>?_⟩
     cases j with
     | zero=>simpa using h'
     | succ j=>simpa using h3 j (by omega)
    ·rintro ⟨h1,h2,h3⟩
     have hk':fidx p l=k:=ih.2 ⟨by simp at h1; omega,by simpa using h2,fun j hj=>by simpa using h3 (j+1) (by omega)⟩
     rw [if_neg (by omega)]
     omega
theorem fidx_loop {α:Type} {body:Int→Option (Int⊕(Int⊕Unit))} (l:List α) (p:α→Bool)
  (hs:∀ (k:Nat) (x:α),l[k]? = some x→k < l.length→body (k:Int)=some (if p x=true then .inr (.inl (k:Int)) else .inl ((k+1:Nat):Int)))
  (he:body (l.length:Int)=some (.inr (.inr ()))):zW body 0=some (if fidx p l = -1 then .inr () else .inl (fidx p l)):=by
 have key:∀ (m k:Nat),k+m=l.length→(∀ (j:Nat) (hj:j < k) (h2:j < l.length),p l[j]=false)→zW body (k:Int)=some (if fidx p l = -1 then .inr () else .inl (fidx p l)):=by
  intro m
  induction m with
  | zero =>
   intro k hk hp
   have:k=l.length:=by omega
   subst this
   rw [qX,he,if_pos]
   ·rfl
   ·rw [fidx_none]
    intro x hx
    obtain ⟨j,hj,rfl⟩:=List.getElem_of_mem hx
    exact hp j hj hj
  | succ m ih =>
   intro k hk hp
   have hlt:k < l.length:=by omega
   rw [qX,hs k l[k] (List.getElem?_eq_getElem hlt) hlt]
   by_cases q:p l[k]=true
   ·rw [if_pos q]
    have e:fidx p l=k:=(fidx_some p l k).2 ⟨hlt,q,fun j hj=>hp j hj (by omega)⟩
    rw [if_neg (by omega),e]
    rfl
   ·rw [if_neg q]
    refine ih (k+1) (by omega) (fun j hj h2=>?_)
    rcases Nat.lt_succ_iff_lt_or_eq.1 hj with h | rfl
    ·exact hp j h h2
    ·simpa using q
 exact key l.length 0 (by omega) (fun j hj=>by omega)
end Go.TV.F
namespace Go.TV.F
open Go.TV
def pathC (b:Nat):Bool:=(((((decide ((b:Int)≥97) && decide ((b:Int)≤122)) || (decide ((b:Int)≥48) && decide ((b:Int)≤57))) || ((b:Int) == 46)) || ((b:Int) == 45)) || ((b:Int) == 47))
def dbl (s:ByteArray):Bool:=Go.Lib.contains s.data.toList [47,47]
theorem contains_two (c:UInt8):∀ l:List UInt8,Go.Lib.contains l [c,c]=true↔∃ i,l[i]? = some c∧l[i+1]? = some c
 | []=>by
  constructor
  ·intro h; simp [Go.Lib.contains,Go.Lib.index] at h
  ·rintro ⟨i,h,_⟩; simp at h
 | b :: l=>by
  have ih:=contains_two c l
  have hge:=Go.Lib.index_ge l [c,c]
  unfold Go.Lib.contains at ih ⊢
  unfold Go.Lib.index
  by_cases q:[c,c].isPrefixOf (b :: l)=true
  ·rw [if_pos q]
   simp only [Int.le_refl,decide_true,true_iff]
   cases l with
   | nil=>simp [List.isPrefixOf] at q
   | cons a l =>
    simp only [List.isPrefixOf,Bool.and_eq_true,beq_iff_eq] at q
    exact ⟨0,by simp [q.1],by simp [q.2]⟩
  ·rw [if_neg q]
   have hn:(if (Go.Lib.index l [c,c] == -1)=true then -1 else Go.Lib.index l [c,c]+1)≥0↔Go.Lib.index l [c,c]≥0:=by
    by_cases r:Go.Lib.index l [c,c] = -1
    ·rw [if_pos (by simpa using r),r]
    ·rw [if_neg (by simpa using r)]; omega
   rw [decide_eq_true_eq] at ih ⊢
   rw [show (0≤if (Go.Lib.index l [c,c] == -1)=true then -1 else Go.Lib.index l [c,c]+1)↔0≤Go.Lib.index l [c,c] from hn,ih]
   constructor
   ·rintro ⟨i,h1,h2⟩
    exact ⟨i+1,by simpa using h1,by simpa using h2⟩
   ·rintro ⟨i,h1,h2⟩
    cases i with
    | zero =>
     exfalso
     apply q
     cases l with
     | nil=>simp at h2
     | cons a l =>
      simp at h1 h2
      simp [List.isPrefixOf,h1,h2]
    | succ i=>exact ⟨i,by simpa using h1,by simpa using h2⟩
theorem nb_some {s:ByteArray} {i:Nat} {c:UInt8}:s.data.toList[i]? = some c↔(nb s)[i]? = some c.toNat:=by
 unfold nb
 rw [List.getElem?_map]
 cases s.data.toList[i]? with
 | none=>simp
 | some b =>
  simp only [Option.map_some,Option.some.injEq]
  exact ⟨fun h=>by rw [h],fun h=>UInt8.toNat_inj.1 h⟩
theorem dbl_iff (s:ByteArray):dbl s=true↔∃ i,(nb s)[i]? = some 47∧(nb s)[i+1]? = some 47:=by
 unfold dbl
 rw [contains_two]
 constructor
 ·rintro ⟨i,h1,h2⟩
  exact ⟨i,nb_some.1 h1,nb_some.1 h2⟩
 ·rintro ⟨i,h1,h2⟩
  exact ⟨i,nb_some.2 h1,nb_some.2 h2⟩
def b0 (s:ByteArray) (i:Nat):Nat:=(nb s).getD i 0
def pathB (s:ByteArray):Bool:=(decide (1≤s.size) && decide (s.size≤24)) && (nb s).all pathC && (!(b0 s 0 == 47) && !(b0 s (s.size - 1) == 47)) && !dbl s
theorem pathI_eq {s:ByteArray} (hs:s.size≤1000000000):impl_PathOk s=some (pathB s):=by
 unfold impl_PathOk pathB
 rw [all_loopB s pathC (fun k b hk h1 h2 h3=>by
  unfold impl_PathOk_l1
  rw [ifT (by simpa using hk),h1]
  simp only [Option.bind_some,orO,andO,wkS k (by omega)]
  exact fin_if rfl) (by
  unfold impl_PathOk_l1
  rw [ifF (by simp)]),Option.bind_some]
 cases q:(nb s).all pathC with
 | false=>simp
 | true =>
  simp only [if_true,impl_PathOk_j1,inRange_eq,Option.bind_some]
  have hl:=nb_len s
  by_cases h1:1≤s.size∧s.size≤24
  ·have e1:(decide ((1:Int)≤(s.size:Int)) && decide ((s.size:Int)≤24))=true:=by simp; omega
   have e2:(decide (1≤s.size) && decide (s.size≤24))=true:=by simp; omega
   rw [e1,e2,ifF (by simp)]
   have z1:(ByteArray.mk #[47]).size=1:=rfl
   have n1:nb (ByteArray.mk #[47])=[47]:=rfl
   have hp:strings_HasPrefix s (ByteArray.mk #[47])=some (b0 s 0 == 47):=by
    unfold strings_HasPrefix jU
    rw [z1,ifT (by simp; omega)]
    have:subH s ((1:Nat):Int)=some (s.extract 0 1):=by
     unfold subH
     rw [if_neg (by omega),if_pos (by omega)]
     rfl
    rw [this]
    simp only [Option.bind_some]
    rw [beq_nb,nb_extract,n1]
    congr 1
    unfold b0
    cases hn:nb s with
    | nil=>rw [hn] at hl; simp at hl; omega
    | cons a t =>
     simp
     rw [Bool.eq_iff_iff]; simp
   have hsf:strings_HasSuffix s (ByteArray.mk #[47])=some (b0 s (s.size - 1) == 47):=by
    unfold strings_HasSuffix jT
    rw [z1,ifT (by simp; omega),wk64 (by omega) (by omega)]
    have:subL s ((s.size:Int) - ((1:Nat):Int))=some (s.extract (s.size - 1) s.size):=by
     unfold subL
     rw [if_neg (by omega),if_pos (by omega)]
     congr 2
     omega
    rw [this]
    simp only [Option.bind_some]
    rw [beq_nb,nb_extract,n1]
    congr 1
    unfold b0
    rw [show s.size - (s.size - 1)=1 by omega,List.drop_eq_getElem_cons (by omega),getD_in (by omega)]
    rw [Bool.eq_iff_iff]
    simp only [List.take_succ_cons,List.take_zero,decide_eq_true_eq,beq_iff_eq,List.cons.injEq,and_true]
   have hc:strings_Contains s (ByteArray.mk #[47,47])=some (dbl s):=by
    unfold strings_Contains dbl
    rw [if_pos (by omega)]
   rw [hp,hsf,hc]
   simp only [Option.bind_some,andO]
   cases b0 s 0 == 47 <;> cases b0 s (s.size - 1) == 47 <;> cases dbl s <;> rfl
  ·have e1:(decide ((1:Int)≤(s.size:Int)) && decide ((s.size:Int)≤24))=false:=by
    cases h:(decide ((1:Int)≤(s.size:Int)) && decide ((s.size:Int)≤24)) with
    | false=>rfl
    | true=>simp at h; omega
   have e2:(decide (1≤s.size) && decide (s.size≤24))=false:=by
    cases h:(decide (1≤s.size) && decide (s.size≤24)) with
    | false=>rfl
    | true=>simp at h; omega
   rw [e1,e2]
   rfl
theorem pathS_eq {s:ByteArray} (hs:s.size≤1000000000):spec_PathOk s=some (pathB s):=by
 unfold spec_PathOk pathB
 simp only [l01In_eq,Option.bind_some]
 have hl:=nb_len s
 by_cases h1:1≤s.size∧s.size≤24
 ·have e1:(decide ((1:Int)≤(s.size:Int)) && decide ((s.size:Int)≤24))=true:=by simp; omega
  have e2:(decide (1≤s.size) && decide (s.size≤24))=true:=by simp; omega
  rw [e1,e2,ifF (b:=!true) (by simp)]
  obtain ⟨a,g1,g2,g3⟩:=sidx_nb (s:=s) (k:=0) (by omega)
  obtain ⟨z,g4,g5,g6⟩:=sidx_nb (s:=s) (k:=s.size - 1) (by omega)
  have ea:b0 s 0=a:=getD_some g2
  have ez:b0 s (s.size - 1)=z:=getD_some g5
  have e0:sidx s 0=some (a:Int):=g1
  rw [e0,wk64 (by omega) (by omega),show (s.size:Int) - 1=((s.size - 1:Nat):Int) by omega,g4,ea,ez]
  simp only [Option.bind_some,orO]
  have k47:∀ x:Nat,((x:Int) == 47)=(x == 47):=fun x=>by
   rw [Bool.eq_iff_iff]; simp; omega
  rw [k47,k47]
  cases qa:a == 47 with
  | true=>simp
  | false =>
   cases qz:z == 47 with
   | true=>simp
   | false =>
    rw [ifF (by rfl)]
    rw [all_loopN s.size (fun i=>pathC (b0 s i) && !(decide (i > 0) && (b0 s i == 47) && (b0 s (i - 1) == 47))) (fun k hk _=>by
     unfold spec_PathOk_l1
     obtain ⟨b,j1,j2,j3⟩:=sidx_nb (s:=s) hk
     rw [ifT (by simpa using hk),j1]
     have eb:b0 s k=b:=getD_some j2
     simp only [eb]
     by_cases hk0:k=0
     ·subst hk0
      simp only [Option.bind_some,show (decide (((0:Nat):Int) > 0))=false from rfl,show (decide ((0:Nat) > 0))=false from rfl,Bool.false_and,Bool.false_eq_true,if_false,orO,andO,wkS 0 (by omega)]
      exact fin_if (by simp [pathC])
     ·obtain ⟨c,i1,i2,i3⟩:=sidx_nb (s:=s) (k:=k - 1) (by omega)
      have ec:b0 s (k - 1)=c:=getD_some i2
      rw [wk64 (x:=(k:Int) - 1) (by omega) (by omega),show (k:Int) - 1=((k - 1:Nat):Int) by omega,i1]
      simp only [Option.bind_some,orO,andO,wkS k (by omega),ec,k47]
      refine fin_if ?_
      have d1:decide ((k:Int) > 0)=true:=by simp; omega
      have d2:decide (k > 0)=true:=by simp; omega
      rw [d1,d2]
      unfold pathC
      simp only [k47]
      cases b == 47 <;> cases c == 47 <;> simp) (by
     unfold spec_PathOk_l1
     rw [ifF (by simp)])]
    have hall:(List.range s.size).all (fun i=>pathC (b0 s i) && !(decide (i > 0) && (b0 s i == 47) && (b0 s (i - 1) == 47)))=((nb s).all pathC && !dbl s):=by
     rw [Bool.eq_iff_iff,List.all_eq_true,Bool.and_eq_true,List.all_eq_true,Bool.not_eq_true',Bool.eq_false_iff,Ne,dbl_iff]
     constructor
     ·intro h
      refine ⟨fun x hx=>?_,?_⟩
      ·obtain ⟨i,hi,rfl⟩:=List.getElem_of_mem hx
       have:=h i (List.mem_range.2 (by omega))
       unfold b0 at this
       rw [getD_in hi] at this
       simp only [Bool.and_eq_true] at this
       exact this.1
      ·rintro ⟨i,h2,h3⟩
       have hi:=(List.getElem?_eq_some_iff.1 h3).1
       have:=h (i+1) (List.mem_range.2 (by omega))
       unfold b0 at this
       rw [getD_some h3,Nat.add_sub_cancel,getD_some h2] at this
       simp at this
     ·rintro ⟨h2,h3⟩ i hi
      have hi':=List.mem_range.1 hi
      have hin:i < (nb s).length:=by omega
      have p1:pathC (b0 s i)=true:=by
       unfold b0
       rw [getD_in hin]
       exact h2 _ (List.getElem_mem hin)
      rw [p1,Bool.true_and]
      cases hq:(decide (i > 0) && (b0 s i == 47) && (b0 s (i - 1) == 47)) with
      | false=>rfl
      | true =>
       exfalso
       simp only [Bool.and_eq_true,decide_eq_true_eq,beq_iff_eq] at hq
       obtain ⟨⟨hq1,hq2⟩,hq3⟩:=hq
       apply h3
       refine ⟨i - 1,?_,?_⟩
       ·rw [List.getElem?_eq_getElem (by omega),← hq3]
        unfold b0
        rw [getD_in (by omega)]
       ·rw [show i - 1+1=i by omega,List.getElem?_eq_getElem hin,← hq2]
        unfold b0
        rw [getD_in hin]
    rw [hall]
    cases (nb s).all pathC <;> cases dbl s <;> rfl
 ·have e1:(decide ((1:Int)≤(s.size:Int)) && decide ((s.size:Int)≤24))=false:=by
   cases h:(decide ((1:Int)≤(s.size:Int)) && decide ((s.size:Int)≤24)) with
   | false=>rfl
   | true=>simp at h; omega
  have e2:(decide (1≤s.size) && decide (s.size≤24))=false:=by
   cases h:(decide (1≤s.size) && decide (s.size≤24)) with
   | false=>rfl
   | true=>simp at h; omega
  rw [e1,e2]
  rfl
end Go.TV.F
namespace Go.TV.F
open Go.TV
def idN (l:List T_impl_Name) (id:Int):Int:=fidx (fun n=>n.Id == id) l
theorem idAt_eq {l:List T_impl_Name} (hl:l.length≤1000000000) (id:Int):impl_idAt l id=some (idN l id):=by
 unfold impl_idAt qW idN
 rw [fidx_loop l (fun n=>n.Id == id) (fun k x hx hk=>by
  unfold qQ impl_idAt_c1
  rw [ifT (by simpa using hk),zQ,hx]
  simp only [Option.bind_some,wkS k (by omega)]
  split <;> rfl) (by
  unfold qQ
  rw [ifF (by simp)])]
 split
 ·rename_i h
  rw [h]
  rfl
 ·rfl
def bN:T_impl_Name:=⟨ByteArray.mk #[],0,0⟩
def nameAt (l:List T_impl_Name) (i:Nat):Bool:=
 pathB (l.getD i bN).Path && (i == 0 || Op.bytesLess (l.getD (i - 1) bN).Path.toList (l.getD i bN).Path.toList) && (decide (0≤(l.getD i bN).Id) && decide ((l.getD i bN).Id≤11)) && (decide (0≤(l.getD i bN).Version) && decide ((l.getD i bN).Version≤39)) && (List.range i).all fun k=>!((l.getD k bN).Id == (l.getD i bN).Id)
def namesB (l:List T_impl_Name):Bool:=decide (l.length≤12) && (List.range l.length).all (nameAt l)
def smN (l:List T_impl_Name):Prop:=∀ n ∈ l,n.Path.size≤1000000000
theorem idN_first {l:List T_impl_Name} {k:Nat} (hk:k < l.length):(idN l l[k].Id != (k:Int))=!(List.range k).all fun j=>!((l.getD j bN).Id == l[k].Id):=by
 have h:=fidx_some (fun n:T_impl_Name=>n.Id == l[k].Id) l k
 unfold idN
 rw [bne]
 congr 1
 rw [Bool.eq_iff_iff,beq_iff_eq,h,List.all_eq_true]
 constructor
 ·rintro ⟨_,_,h3⟩ j hj
  have hj':=List.mem_range.1 hj
  have:=h3 j hj'
  rw [getD_in (by omega)]
  simp only [this,Bool.not_false]
 ·intro h3
  refine ⟨hk,by simp,fun j hj=>?_⟩
  have:=h3 j (List.mem_range.2 hj)
  rw [getD_in (by omega)] at this
  simpa using this
theorem namesI_eq {l:List T_impl_Name} (hs:smN l):impl_NamesOk l=some (namesB l):=by
 unfold impl_NamesOk namesB
 by_cases q:l.length≤12
 ·rw [ifF (by simp; omega),decide_eq_true q,Bool.true_and,all_loopN l.length (nameAt l) (fun k hk _=>by
   unfold impl_NamesOk_l1
   rw [ifT (by simpa using hk),zQ,List.getElem?_eq_getElem hk]
   simp only [Option.bind_some]
   rw [pathI_eq (hs _ (List.getElem_mem hk)),inRange_eq,inRange_eq,idAt_eq (by omega)]
   simp only [Option.bind_some,orO,wkS k (by omega)]
   have hprev:(if decide ((k:Int) > 0)=true then (zX l (wk .i64 ((k:Int) - 1))).bind fun x_1=>some (Op.bytesLess l[k].Path.toList x_1.Path.toList || l[k].Path.toList == x_1.Path.toList) else some false)=some (!(k == 0 || Op.bytesLess (l.getD (k - 1) bN).Path.toList l[k].Path.toList)):=by
    by_cases hk0:k=0
    ·subst hk0
     rfl
    ·rw [ifT (by simp; omega),wk64 (by omega) (by omega),show (k:Int) - 1=((k - 1:Nat):Int) by omega,zQ,List.getElem?_eq_getElem (by omega),Option.bind_some,bl_tri,getD_in (show k - 1 < l.length by omega)]
     have:(k == 0)=false:=by simpa using hk0
     rw [this,Bool.false_or]
   rw [hprev,idN_first hk]
   simp only [Option.bind_some,orO]
   unfold nameAt
   rw [getD_in hk]
   generalize pathB l[k].Path=a
   generalize (decide (0≤l[k].Id) && decide (l[k].Id≤11))=b
   generalize (decide (0≤l[k].Version) && decide (l[k].Version≤39))=c
   generalize (k == 0 || Op.bytesLess (l.getD (k - 1) bN).Path.toList l[k].Path.toList)=d
   generalize ((List.range k).all fun j=>!((l.getD j bN).Id == l[k].Id))=e
   cases a <;> cases b <;> cases c <;> cases d <;> cases e <;> rfl) (by
   unfold impl_NamesOk_l1
   rw [ifF (by simp)])]
  cases (List.range l.length).all (nameAt l) <;> rfl
 ·rw [ifT (by simp; omega),decide_eq_false q]
  rfl
theorem namesS_eq {l:List T_impl_Name} (hs:smN l):spec_NamesOk l=some (namesB l):=by
 unfold spec_NamesOk namesB
 by_cases q:l.length≤12
 ·rw [ifF (by simp; omega),decide_eq_true q,Bool.true_and,all_loopN l.length (nameAt l) (fun k hk _=>by
   unfold spec_NamesOk_l1
   rw [ifT (by simpa using hk),zQ,List.getElem?_eq_getElem hk]
   simp only [Option.bind_some]
   rw [pathS_eq (hs _ (List.getElem_mem hk)),l01In_eq,l01In_eq]
   have hprev:(if decide ((k:Int) > 0)=true then (zX l (wk .i64 ((k:Int) - 1))).bind fun x_1=>some (!Op.bytesLess x_1.Path.toList l[k].Path.toList) else some false)=some (!(k == 0 || Op.bytesLess (l.getD (k - 1) bN).Path.toList l[k].Path.toList)):=by
    by_cases hk0:k=0
    ·subst hk0
     rfl
    ·rw [ifT (by simp; omega),wk64 (by omega) (by omega),show (k:Int) - 1=((k - 1:Nat):Int) by omega,zQ,List.getElem?_eq_getElem (by omega),Option.bind_some,getD_in (show k - 1 < l.length by omega)]
     have:(k == 0)=false:=by simpa using hk0
     rw [this,Bool.false_or]
   rw [hprev]
   simp only [Option.bind_some,orO]
   have hin:zW (fun (s':Int)=>spec_NamesOk_l2 l (k:Int) l[k] s') 0=some (if ((List.range k).all fun j=>!((l.getD j bN).Id == l[k].Id))=true then .inr () else .inl (.inr (.inl false))):=by
    refine all_loopN k (fun j=>!((l.getD j bN).Id == l[k].Id)) (fun j hj _=>?_) ?_
    ·show spec_NamesOk_l2 l k l[k] j=_
     unfold spec_NamesOk_l2
     rw [ifT (by simpa using hj),zQ,List.getElem?_eq_getElem (by omega),Option.bind_some,wkS j (by omega),getD_in (show j < l.length by omega)]
     exact fin_if (by simp)
    ·show spec_NamesOk_l2 l k l[k] k=_
     unfold spec_NamesOk_l2
     rw [ifF (by simp)]
   rw [hin]
   unfold nameAt
   rw [getD_in hk]
   simp only [spec_NamesOk_j2,wkS k (show k < 1000000000 by omega)]
   generalize pathB l[k].Path=a
   generalize (decide (0≤l[k].Id) && decide (l[k].Id≤11))=b
   generalize (decide (0≤l[k].Version) && decide (l[k].Version≤39))=c
   generalize (k == 0 || Op.bytesLess (l.getD (k - 1) bN).Path.toList l[k].Path.toList)=d
   generalize ((List.range k).all fun j=>!((l.getD j bN).Id == l[k].Id))=e
   cases a <;> cases b <;> cases c <;> cases d <;> cases e <;> rfl) (by
   unfold spec_NamesOk_l1
   rw [ifF (by simp)])]
  cases (List.range l.length).all (nameAt l) <;> rfl
 ·rw [ifT (by simp; omega),decide_eq_false q]
  rfl
def noteC (b:Nat):Bool:=!(decide ((b:Int) < 32) || decide ((b:Int) > 126))
def noteB (s:ByteArray):Bool:=decide (s.size≤40) && (nb s).all noteC
theorem noteI_eq {s:ByteArray} (hs:s.size≤1000000000):impl_NoteOk s=some (noteB s):=by
 unfold impl_NoteOk noteB
 rw [all_loopB s noteC (fun k b hk h1 h2 h3=>by
  unfold impl_NoteOk_l1
  rw [ifT (by simpa using hk),h1]
  simp only [Option.bind_some,orO,wkS k (by omega)]
  exact fin_if (by simp [noteC])) (by
  unfold impl_NoteOk_l1
  rw [ifF (by simp)]),Option.bind_some]
 have e:decide ((s.size:Int)≤40)=decide (s.size≤40):=by rw [decide_eq_decide]; omega
 cases (nb s).all noteC with
 | true=>simp only [if_true,impl_NoteOk_j1,e,Bool.and_true]
 | false=>simp
theorem noteS_eq {s:ByteArray} (hs:s.size≤1000000000):spec_NoteOk s=some (noteB s):=by
 unfold spec_NoteOk noteB
 have e:decide ((s.size:Int)≤40)=decide (s.size≤40):=by rw [decide_eq_decide]; omega
 by_cases q:s.size≤40
 ·rw [all_loopB s noteC (fun k b hk h1 h2 h3=>by
   unfold spec_NoteOk_l1
   rw [ifT (by simpa using hk),h1]
   simp only [Option.bind_some,orO,wkS k (by omega),e,decide_eq_true q,if_true]
   exact fin_if (by simp [noteC])) (by
   unfold spec_NoteOk_l1
   rw [ifF (by simp)]
   rfl),Option.bind_some]
  cases (nb s).all noteC with
  | true=>simp only [if_true,spec_NoteOk_j1,e,Bool.and_true]
  | false=>simp
 ·rw [qX]
  unfold spec_NoteOk_l1
  rw [decide_eq_false q,e,decide_eq_false q]
  have:∀ b:Bool,(if b=true then some false else some false)=some false:=fun b=>by cases b <;> rfl
  rw [this]
  simp only [Option.bind_some,Bool.false_eq_true,if_false,spec_NoteOk_j1,e,decide_eq_false q,Bool.false_and]
def graphC (l:List T_impl_Commit):List (List Int):=l.map fun c=>c.Parents
theorem graphI_eq {l:List T_impl_Commit} (hl:l.length≤1000000000):impl_graphOf l=some (graphC l):=by
 unfold impl_graphOf graphC
 rw [map_loop (body:=fun (s':Int×(List (List Int)))=>impl_graphOf_l1 l s'.1 s'.2) l (fun c=>c.Parents) id hl (fun k x out hx hk ho=>by
  simp only [impl_graphOf_l1]
  rw [ifT (by simpa using hk),zQ,hx,Option.bind_some,appn_in (by simp; omega),Option.bind_some,wkS k (by omega)]) (fun out=>by
  simp only [impl_graphOf_l1]
  rw [ifF (by simp)]
  rfl)]
 rfl
theorem graphS_eq {l:List T_impl_Commit} (hl:l.length≤1000000000):spec_l14Graph l=some (graphC l):=by
 unfold spec_l14Graph graphC
 rw [map_loop (body:=fun (s':Int×(List (List Int)))=>spec_l14Graph_l1 l s'.1 s'.2) l (fun c=>c.Parents) id hl (fun k x out hx hk ho=>by
  simp only [spec_l14Graph_l1]
  rw [ifT (by simpa using hk),zQ,hx,Option.bind_some,appn_in (by simp; omega),Option.bind_some,wkS k (by omega)]) (fun out=>by
  simp only [spec_l14Graph_l1]
  rw [ifF (by simp)]
  rfl)]
 rfl
def nameIn (vs:List Int) (n:T_impl_Name):Bool:=!(decide (n.Id≥(vs.length:Int)) || decide (n.Version≥vs.getD n.Id.toNat 0))
def commitB (vs:List Int) (c:T_impl_Commit):Bool:=noteB c.Note && namesB c.Names && c.Names.all (nameIn vs)
def commitsB (l:List T_impl_Commit) (vs:List Int):Bool:=decide (l.length≤40) && decide (vs.length≤12) && gOk (graphC l) && (vs.all fun n=>decide (0≤n) && decide (n≤40)) && l.all (commitB vs)
def smC (c:T_impl_Commit):Prop:=c.Note.size≤1000000000∧smN c.Names
theorem namesB_at {l:List T_impl_Name} (h:namesB l=true) {k:Nat} (hk:k < l.length):nameAt l k=true:=by
 unfold namesB at h
 rw [Bool.and_eq_true,List.all_eq_true] at h
 exact h.2 k (List.mem_range.2 hk)
theorem namesB_len {l:List T_impl_Name} (h:namesB l=true):l.length≤12:=by
 unfold namesB at h
 rw [Bool.and_eq_true,decide_eq_true_eq] at h
 exact h.1
theorem namesB_id {l:List T_impl_Name} (h:namesB l=true) {n:T_impl_Name} (hn:n ∈ l):0≤n.Id∧n.Id≤11∧0≤n.Version∧n.Version≤39∧pathB n.Path=true:=by
 obtain ⟨k,hk,rfl⟩:=List.getElem_of_mem hn
 have:=namesB_at h hk
 unfold nameAt at this
 rw [getD_in hk] at this
 simp only [Bool.and_eq_true,decide_eq_true_eq] at this
 exact ⟨this.1.1.2.1,this.1.1.2.2,this.1.2.1,this.1.2.2,this.1.1.1.1⟩
theorem nameIn_eq {vs:List Int} {n:T_impl_Name} (h:0≤n.Id):(if decide (n.Id≥(vs.length:Int))=true then some true else (zX vs n.Id).bind fun x=>some (decide (n.Version≥x)))=some (!nameIn vs n):=by
 unfold nameIn
 rw [Bool.not_not]
 by_cases q:n.Id≥(vs.length:Int)
 ·rw [decide_eq_true q]
  rfl
 ·rw [decide_eq_false q,ifF rfl,geti_in h (by omega),Option.bind_some,getD_in (by omega)]
  rfl
theorem commitsI_eq {l:List T_impl_Commit} {vs:List Int} (hl:l.length≤2000000) (hs:∀ c ∈ l,smC c):impl_CommitsOk l vs=some (commitsB l vs):=by
 unfold impl_CommitsOk commitsB
 rw [graphI_eq (by omega)]
 simp only [Option.bind_some]
 rw [graphOkI_eq (by unfold graphC; simp; omega)]
 simp only [Option.bind_some,orO]
 by_cases q1:l.length≤40
 ·have d1:decide ((l.length:Int) > 40)=false:=by simp; omega
  by_cases q2:vs.length≤12
  ·have d2:decide ((vs.length:Int) > 12)=false:=by simp; omega
   rw [d1,d2,decide_eq_true q1,decide_eq_true q2]
   simp only [Bool.false_or,Bool.or_false,Bool.true_and]
   cases gOk (graphC l) with
   | false=>rfl
   | true =>
    rw [ifF (by rfl),all_loopL vs (fun n=>decide (0≤n) && decide (n≤40)) (fun k x hx hk=>by
     unfold impl_CommitsOk_l3
     rw [ifT (by simpa using hk),zQ,hx]
     simp only [Option.bind_some,inRange_eq,wkS k (by omega)]
     exact fin_if rfl) (by
     unfold impl_CommitsOk_l3
     rw [ifF (by simp)]),Option.bind_some]
    cases vs.all (fun n=>decide (0≤n) && decide (n≤40)) with
    | false=>rfl
    | true =>
     simp only [if_true,Bool.true_and]
     unfold impl_CommitsOk_j1
     rw [all_loopL l (commitB vs) (fun k x hx hk=>by
      have hm:=List.mem_of_getElem? hx
      obtain ⟨s1,s2⟩:=hs x hm
      unfold impl_CommitsOk_l1
      rw [ifT (by simpa using hk),zQ,hx]
      simp only [Option.bind_some]
      rw [noteI_eq s1,namesI_eq s2]
      simp only [Option.bind_some,orO]
      unfold commitB
      cases noteB x.Note with
      | false=>rfl
      | true =>
       cases qn:namesB x.Names with
       | false=>rfl
       | true =>
        rw [ifF (by rfl),all_loopL x.Names (nameIn vs) (fun j n hn hj=>by
         unfold impl_CommitsOk_l2
         have:=namesB_id qn (List.mem_of_getElem? hn)
         have:=namesB_len qn
         rw [ifT (by simpa using hj),zQ,hn,Option.bind_some,nameIn_eq (by omega)]
         simp only [Option.bind_some,wkS j (show j < 1000000000 by omega)]
         exact fin_if rfl) (by
         unfold impl_CommitsOk_l2
         rw [ifF (by simp)]),Option.bind_some]
        cases x.Names.all (nameIn vs) with
        | false=>rfl
        | true=>simp only [if_true,impl_CommitsOk_j3,wkS k (show k < 1000000000 by omega),Bool.true_and]) (by
      unfold impl_CommitsOk_l1
      rw [ifF (by simp)]),Option.bind_some]
     cases l.all (commitB vs) <;> rfl
  ·have d2:decide ((vs.length:Int) > 12)=true:=by simp; omega
   rw [d2,decide_eq_false q2]
   simp
 ·have d1:decide ((l.length:Int) > 40)=true:=by simp; omega
  rw [d1,decide_eq_false q1]
  simp
theorem commitsS_eq {l:List T_impl_Commit} {vs:List Int} (hl:l.length≤2000000) (hs:∀ c ∈ l,smC c):spec_CommitsOk l vs=some (commitsB l vs):=by
 unfold spec_CommitsOk commitsB
 rw [graphS_eq (by omega)]
 simp only [Option.bind_some]
 rw [graphOkS_eq (by unfold graphC; simp; omega)]
 simp only [Option.bind_some,orO]
 by_cases q1:l.length≤40
 ·have d1:decide ((l.length:Int) > 40)=false:=by simp; omega
  by_cases q2:vs.length≤12
  ·have d2:decide ((vs.length:Int) > 12)=false:=by simp; omega
   rw [d1,d2,decide_eq_true q1,decide_eq_true q2]
   simp only [Bool.false_or,Bool.or_false,Bool.true_and]
   cases gOk (graphC l) with
   | false=>rfl
   | true =>
    rw [ifF (by rfl),all_loopL vs (fun n=>decide (0≤n) && decide (n≤40)) (fun k x hx hk=>by
     unfold spec_CommitsOk_l3
     rw [ifT (by simpa using hk),zQ,hx]
     simp only [Option.bind_some,l01In_eq,wkS k (by omega)]
     exact fin_if rfl) (by
     unfold spec_CommitsOk_l3
     rw [ifF (by simp)]),Option.bind_some]
    cases vs.all (fun n=>decide (0≤n) && decide (n≤40)) with
    | false=>rfl
    | true =>
     simp only [if_true,Bool.true_and]
     unfold spec_CommitsOk_j1
     rw [all_loopL l (commitB vs) (fun k x hx hk=>by
      have hm:=List.mem_of_getElem? hx
      obtain ⟨s1,s2⟩:=hs x hm
      unfold spec_CommitsOk_l1
      rw [ifT (by simpa using hk),zQ,hx]
      simp only [Option.bind_some]
      rw [noteS_eq s1,namesS_eq s2]
      simp only [Option.bind_some,orO]
      unfold commitB
      cases noteB x.Note with
      | false=>rfl
      | true =>
       cases qn:namesB x.Names with
       | false=>rfl
       | true =>
        rw [ifF (by rfl),all_loopL x.Names (nameIn vs) (fun j n hn hj=>by
         unfold spec_CommitsOk_l2
         have:=namesB_id qn (List.mem_of_getElem? hn)
         have:=namesB_len qn
         rw [zQ,hx,Option.bind_some,ifT (by simpa using hj),zQ,hn,Option.bind_some,nameIn_eq (by omega)]
         simp only [Option.bind_some,wkS j (show j < 1000000000 by omega)]
         exact fin_if rfl) (by
         unfold spec_CommitsOk_l2
         rw [zQ,hx,Option.bind_some,ifF (by simp)]),Option.bind_some]
        cases x.Names.all (nameIn vs) with
        | false=>rfl
        | true=>simp only [if_true,spec_CommitsOk_j3,wkS k (show k < 1000000000 by omega),Bool.true_and]) (by
      unfold spec_CommitsOk_l1
      rw [ifF (by simp)]),Option.bind_some]
     cases l.all (commitB vs) <;> rfl
  ·have d2:decide ((vs.length:Int) > 12)=true:=by simp; omega
   rw [d2,decide_eq_false q2]
   simp
 ·have d1:decide ((l.length:Int) > 40)=true:=by simp; omega
  rw [d1,decide_eq_false q1]
  simp
end Go.TV.F
namespace Go.TV.F
open Go.TV
def inB (x:Int):Bool:=decide (0≤x) && decide (x≤63)
def setN (l:List Int):Nat:=l.foldl (fun (s:Nat) (x:Int)=>if inB x=true then s ||| 2 ^ x.toNat else s) 0
theorem setN_snoc (l:List Int) (x:Int):setN (l++[x])=if inB x=true then setN l ||| 2 ^ x.toNat else setN l:=by
 simp [setN]
theorem setN_take {l:List Int} {i:Nat} (hi:i < l.length):setN (l.take (i+1))=if inB l[i]=true then setN (l.take i) ||| 2 ^ l[i].toNat else setN (l.take i):=by
 rw [List.take_succ_eq_append_getElem hi,setN_snoc]
theorem inB_lt {x:Int} (h:inB x=true):0≤x∧x≤63:=by simpa [inB] using h
theorem fold_lt (l:List Int):∀ s:Nat,s < 2 ^ 64→l.foldl (fun (s:Nat) (x:Int)=>if inB x=true then s ||| 2 ^ x.toNat else s) s < 2 ^ 64:=by
 induction l with
 | nil=>intro s h; exact h
 | cons x l ih =>
  intro s h
  rw [List.foldl_cons]
  refine ih _ ?_
  split
  ·rename_i q
   have:=inB_lt q
   exact Nat.or_lt_two_pow h (Nat.pow_lt_pow_right (by decide) (by omega))
  ·exact h
theorem setN_lt (l:List Int):setN l < 2 ^ 64:=fold_lt l 0 (by decide)
theorem fold_test (l:List Int) (u:Nat):∀ s:Nat,(l.foldl (fun (s:Nat) (x:Int)=>if inB x=true then s ||| 2 ^ x.toNat else s) s).testBit u=(s.testBit u || l.any fun x=>inB x && (x == (u:Int))):=by
 induction l with
 | nil=>intro s; simp
 | cons x l ih =>
  intro s
  rw [List.foldl_cons,ih,List.any_cons]
  by_cases q:inB x=true
  ·have:=inB_lt q
   rw [if_pos q,Nat.testBit_or,Nat.testBit_two_pow,q,Bool.true_and,Bool.or_assoc]
   have e:decide (x.toNat=u)=(x == (u:Int)):=by
    rw [Bool.eq_iff_iff]
    simp
    omega
   rw [e]
  ·rw [if_neg q]
   have q:inB x=false:=by simpa using q
   rw [q]
   simp
theorem setN_test (l:List Int) (u:Nat):(setN l).testBit u=l.any fun x=>inB x && (x == (u:Int)):=by
 unfold setN
 rw [fold_test]
 simp
theorem setOf_eq {l:List Int} (hl:l.length≤1000000000):impl_setOf l=some ((setN l:Nat):Int):=by
 unfold impl_setOf
 have:=loopM_at (body:=fun (s':Int×Int)=>impl_setOf_l1 l s'.1 s'.2) (r:=((setN l:Nat):Int)) (fun k=>(((setN (l.take k):Nat):Int),(k:Int))) l.length (fun k hk=>by
  show impl_setOf_l1 l _ (k:Int)=_
  unfold impl_setOf_l1
  rw [ifT (by simpa using hk),zQ,List.getElem?_eq_getElem hk,Option.bind_some,inRange_eq,Option.bind_some,wk64 (x:=(k:Int)+1) (by omega) (by omega),setN_take hk]
  show (if inB l[k]=true then _ else _)=_
  by_cases q:inB l[k]=true
  ·have h:=inB_lt q
   rw [if_pos q,if_pos q,wku64 (x:=l[k]) (by omega) (by omega),chk_in (by omega),Option.bind_some]
   obtain ⟨n,hn⟩:∃ n:Nat,l[k]=n:=⟨l[k].toNat,by omega⟩
   have h1:=setN_lt (l.take k)
   have h2:(2:Nat) ^ n < 2 ^ 64:=Nat.pow_lt_pow_right (by decide) (by omega)
   rw [hn,shl_one (by omega),or_u64 h1 h2]
   rfl
  ·rw [if_neg q,if_neg q]
   rfl) (by
  show impl_setOf_l1 l _ (l.length:Int)=_
  unfold impl_setOf_l1
  rw [ifF (by simp),List.take_length])
 rw [show ((0:Int),(0:Int))=(((setN (l.take 0):Nat):Int),((0:Nat):Int)) from rfl,this]
 rfl
end Go.TV.F
namespace Go.TV.F
open Go.TV
def goE {α β ρ:Type} (step:Nat→β→α→β⊕ρ) (fin:β→ρ):List α→Nat→β→ρ
 | [],_,b=>fin b
 | x :: l,i,b=>match step i b x with
  | .inl b'=>goE step fin l (i+1) b'
  | .inr r=>r
theorem loopE {S ρ α β:Type} {body:S→Option (S⊕ρ)} (mk:Nat→β→S) (l:List α) (step:Nat→β→α→β⊕ρ) (fin:β→ρ) (I:Nat→β→Prop)
  (hs:∀ (i:Nat) (x:α) (b:β),l[i]? = some x→i < l.length→I i b→(∃ b',step i b x=.inl b'∧body (mk i b)=some (.inl (mk (i+1) b'))∧I (i+1) b')∨∃ r,step i b x=.inr r∧body (mk i b)=some (.inr r))
  (he:∀ b,I l.length b→body (mk l.length b)=some (.inr (fin b))) {b0:β} (h0:I 0 b0):zW body (mk 0 b0)=some (goE step fin l 0 b0):=by
 have key:∀ (l' pre:List α) (b:β),l=pre++l'→I pre.length b→zW body (mk pre.length b)=some (goE step fin l' pre.length b):=by
  intro l'
  induction l' with
  | nil =>
   intro pre b h hI
   rw [List.append_nil] at h
   subst h
   rw [qX,he b hI]
   rfl
  | cons x l' ih =>
   intro pre b h hI
   have hx:l[pre.length]? = some x:=by rw [h]; simp
   have hlt:pre.length < l.length:=by rw [h]; simp
   rw [qX]
   rcases hs pre.length x b hx hlt hI with ⟨b',h1,h2,h3⟩ | ⟨r,h1,h2⟩
   ·rw [h2]
    have:=ih (pre++[x]) b' (by simp [h]) (by simpa using h3)
    simp only [List.length_append,List.length_singleton] at this
    simp only [goE,h1]
    exact this
   ·rw [h2]
    have:goE step fin (x :: l') pre.length b=r:=by simp only [goE,h1]
    rw [this]
    rfl
 exact key l [] b0 rfl h0
theorem loopAllL {ρ α:Type} {body:Int→Option (Int⊕ρ)} {good bad:ρ} (l:List α) (p:α→Bool) (hs:∀ (i:Nat) (x:α),l[i]? = some x→i < l.length→body (i:Int)=some (if p x=true then .inl ((i+1:Nat):Int) else .inr bad))
  (he:body (l.length:Int)=some (.inr good)):zW body 0=some (if l.all p=true then good else bad):=by
 have key:∀ (l' pre:List α),l=pre++l'→zW body (pre.length:Int)=some (if l'.all p=true then good else bad):=by
  intro l'
  induction l' with
  | nil =>
   intro pre h
   rw [List.append_nil] at h
   subst h
   rw [qX,he]
   rfl
  | cons x l' ih =>
   intro pre h
   have hx:l[pre.length]? = some x:=by rw [h]; simp
   have hlt:pre.length < l.length:=by rw [h]; simp
   rw [qX,hs _ _ hx hlt,List.all_cons]
   cases q:p x with
   | true =>
    have:=ih (pre++[x]) (by simp [h])
    simp only [List.length_append,List.length_singleton] at this
    simpa using this
   | false=>rfl
 exact key l [] rfl
def idxs {α:Type} (p:α→Bool):List α→Nat→List Nat
 | [],_=>[]
 | x :: l,i=>if p x=true then i :: idxs p l (i+1) else idxs p l (i+1)
theorem idxs_go {α:Type} (p:α→Bool):∀ (l:List α) (i:Nat) (out:List Int),goE (ρ:=List Int) (fun i (b:List Int) x=>.inl (if p x=true then b++[(i:Int)] else b)) id l i out=out++ints (idxs p l i)
 | [],_,out=>by simp [goE,idxs,ints]
 | x :: l,i,out=>by
  simp only [goE,idxs]
  rw [idxs_go p l (i+1)]
  split <;> simp [ints]
def outB (s:Nat) (d:Int):Bool:=!(inB d && s.testBit d.toNat)
def liveN (s:Nat) (b:T_impl_Body):Bool:=(inB b.Ins && s.testBit b.Ins.toNat) && b.Dels.all (outB s)
theorem has_eq {s:Nat} {v:Int} (hs:s < 2 ^ 64):impl_set_has (s:Int) v=some (inB v && s.testBit v.toNat):=by
 rw [setHas_eq hs]
 rfl
theorem and_zero {a s:Nat}:(((a &&& s:Nat):Int) == 0)=true↔∀ u,¬(a.testBit u=true∧s.testBit u=true):=by
 rw [beq_iff_eq]
 constructor
 ·intro h u hu
  have h0:a &&& s=0:=by omega
  have:=congrArg (fun z=>z.testBit u) h0
  simp [Nat.testBit_and,hu.1,hu.2] at this
 ·intro h
  have:a &&& s=0:=Nat.eq_of_testBit_eq (fun u=>by
   rw [Nat.testBit_and,Nat.zero_testBit]
   cases h1:a.testBit u <;> cases h2:s.testBit u <;> simp
   exact h u ⟨h1,h2⟩)
  rw [this]
  rfl
theorem dels_out (l:List Int) (s:Nat):(((setN l &&& s:Nat):Int) == 0)=l.all (outB s):=by
 rw [Bool.eq_iff_iff,and_zero,List.all_eq_true]
 constructor
 ·intro h x hx
  unfold outB
  cases hi:inB x with
  | false=>rfl
  | true =>
   cases hb:s.testBit x.toNat with
   | false=>rfl
   | true =>
    refine absurd ⟨?_,hb⟩ (h x.toNat)
    rw [setN_test,List.any_eq_true]
    have:=inB_lt hi
    exact ⟨x,hx,by rw [hi]; simp; omega⟩
 ·rintro h u ⟨h1,h2⟩
  rw [setN_test,List.any_eq_true] at h1
  obtain ⟨x,hx,h3⟩:=h1
  simp only [Bool.and_eq_true,beq_iff_eq] at h3
  have:=h x hx
  unfold outB at this
  rw [h3.1,h3.2] at this
  simp [h2] at this
theorem isLive_eq {b:T_impl_Body} {s:Nat} (hs:s < 2 ^ 64) (hl:b.Dels.length≤1000000000):impl_Body_isLive b (s:Int)=some (liveN s b):=by
 unfold impl_Body_isLive liveN
 rw [has_eq hs,Option.bind_some]
 cases q:(inB b.Ins && s.testBit b.Ins.toNat) with
 | false=>rfl
 | true =>
  rw [ifT rfl,setOf_eq hl,Option.bind_some,and_u64 (setN_lt _) hs,dels_out]
  rfl
def agree (t:List Bool) (s:Nat):Prop:=t.length≤64∧∀ u,t.getD u false=s.testBit u
theorem agree_at {t:List Bool} {s:Nat} (h:agree t s) (v:Int):(decide (0≤v) && decide (v≤(t.length:Int) - 1) && t.getD v.toNat false)=(inB v && s.testBit v.toNat):=by
 rw [h.2]
 have hl:=h.1
 unfold inB
 by_cases q0:0≤v
 ·by_cases q1:v≤(t.length:Int) - 1
  ·have:v≤63:=by omega
   simp [q0,q1,this]
  ·have hb:s.testBit v.toNat=false:=by
    rw [← h.2,List.getD_eq_getElem?_getD,List.getElem?_eq_none (by omega)]
    rfl
   simp [hb]
 ·simp [q0]
theorem l06Live_eq {b:T_impl_Body} {t:List Bool} {s:Nat} (ha:agree t s) (hl:b.Dels.length≤1000000000):spec_l06Live b t=some (liveN s b):=by
 have hat:=agree_at ha
 have ht:=ha.1
 have get:∀ {v:Int},0≤v→v≤(t.length:Int) - 1→zX t v=some (t.getD v.toNat false):=fun {v} h0 h1=>by
  rw [geti_in h0 (by omega),List.getD_eq_getElem?_getD,List.getElem?_eq_getElem (by omega)]
  rfl
 unfold spec_l06Live liveN
 rw [wk64 (by omega) (by omega),l01In_eq,Option.bind_some,← hat b.Ins]
 cases q0:(decide (0≤b.Ins) && decide (b.Ins≤(t.length:Int) - 1)) with
 | false=>rfl
 | true =>
  have q0':=q0
  simp only [Bool.and_eq_true,decide_eq_true_eq] at q0'
  rw [ifF (b:=!true) rfl,get q0'.1 q0'.2,Option.bind_some]
  simp only [Option.bind_some]
  cases q1:t.getD b.Ins.toNat false with
  | false=>rfl
  | true =>
   rw [ifF (b:=!true) rfl]
   have:=loopAllL (body:=fun s'=>spec_l06Live_l1 b t s') (good:=.inr ()) (bad:=.inl false) b.Dels (outB s) (fun i x hi hlt=>by
    unfold spec_l06Live_l1
    rw [ifT (by simpa using hlt),zQ,hi,Option.bind_some,wk64 (by omega) (by omega),l01In_eq,Option.bind_some,wkS i (by omega)]
    unfold outB
    rw [← hat x]
    cases q2:(decide (0≤x) && decide (x≤(t.length:Int) - 1)) with
    | false=>rfl
    | true =>
     have q2':=q2
     simp only [Bool.and_eq_true,decide_eq_true_eq] at q2'
     rw [ifT rfl,get q2'.1 q2'.2]
     simp only [Option.bind_some]
     cases t.getD x.toNat false <;> rfl) (by
    unfold spec_l06Live_l1
    rw [ifF (by simp)])
   rw [this,Option.bind_some]
   cases b.Dels.all (outB s) <;> rfl
def delsOk (w:T_impl_Weave):Prop:=w.Bodies.length≤1000000000∧∀ b ∈ w.Bodies,b.Dels.length≤1000000000
def places (s:Nat) (w:T_impl_Weave):List Nat:=idxs (liveN s) w.Bodies 0
theorem liveIn_eq {w:T_impl_Weave} {s:Nat} (hs:s < 2 ^ 64) (hw:delsOk w):impl_Weave_liveIn w (s:Int)=some (ints (places s w)):=by
 have hwl:=hw.1
 unfold impl_Weave_liveIn places
 have:=loopE (body:=fun (s':Int×List Int)=>jC w s s'.1 s'.2) (fun i b=>((i:Int),b)) w.Bodies (fun i (b:List Int) x=>(.inl (if liveN s x=true then b++[(i:Int)] else b):List Int⊕List Int)) id (fun i b=>b.length≤i) (fun i x b hi hlt hI=>by
  left
  refine ⟨_,rfl,?_,?_⟩
  ·show jC w s i b=_
   unfold jC
   rw [ifT (by simpa using hlt),zQ,hi,Option.bind_some]
   show (impl_Body_isLive x s).bind _=_
   rw [isLive_eq hs (hw.2 x (List.mem_of_getElem? hi)),Option.bind_some,wkS i (by omega)]
   cases liveN s x with
   | true=>rw [ifT rfl,appn_in (by simp; omega),Option.bind_some]; rfl
   | false=>rfl
  ·split <;> (try simp only [List.length_append,List.length_singleton]) <;> omega) (fun b hI=>by
  show jC w s w.Bodies.length b=_
  unfold jC
  rw [ifF (by simp)]
  rfl) (b0:=[]) (by simp)
 have e0:((0:Nat):Int)=0:=rfl
 rw [e0] at this
 rw [this,idxs_go,Option.bind_some,List.nil_append]
 rfl
theorem l06Places_eq {w:T_impl_Weave} {t:List Bool} {s:Nat} (ha:agree t s) (hw:delsOk w):spec_l06Places w t=some (ints (places s w)):=by
 have hwl:=hw.1
 unfold spec_l06Places places
 have:=loopE (body:=fun (s':Int×List Int)=>jO w t s'.1 s'.2) (fun i b=>((i:Int),b)) w.Bodies (fun i (b:List Int) x=>(.inl (if liveN s x=true then b++[(i:Int)] else b):List Int⊕List Int)) id (fun i b=>b.length≤i) (fun i x b hi hlt hI=>by
  left
  refine ⟨_,rfl,?_,?_⟩
  ·show jO w t i b=_
   unfold jO
   rw [ifT (by simpa using hlt),zQ,hi,Option.bind_some]
   show (spec_l06Live x t).bind _=_
   rw [l06Live_eq ha (hw.2 x (List.mem_of_getElem? hi)),Option.bind_some,wkS i (by omega)]
   cases liveN s x with
   | true=>rw [ifT rfl,appn_in (by simp; omega),Option.bind_some]; rfl
   | false=>rfl
  ·split <;> (try simp only [List.length_append,List.length_singleton]) <;> omega) (fun b hI=>by
  show jO w t w.Bodies.length b=_
  unfold jO
  rw [ifF (by simp)]
  rfl) (b0:=[]) (by simp)
 have e0:((0:Nat):Int)=0:=rfl
 rw [e0] at this
 rw [this,idxs_go,Option.bind_some,List.nil_append]
 rfl
end Go.TV.F
namespace Go.TV.F
open Go.TV
end Go.TV.F
namespace Go.TV.F
open Go.TV
theorem agree_set {g:List (List Int)} (hg:gOk g=true) {l:List Int} (hl:∀ x ∈ l,0≤x∧x < (g.length:Int)):agree (setL g l) (orL (closN g g.length) l):=by
 refine ⟨by rw [setL_len]; have:=gOk_len hg; omega,fun u=>?_⟩
 rw [Bool.eq_iff_iff,setL_get hg,orL_test,List.any_eq_true]
 constructor
 ·rintro ⟨x,h1,h2,h3,h4⟩
  exact ⟨x,h1,h4⟩
 ·rintro ⟨x,h1,h4⟩
  exact ⟨x,h1,(hl x h1).1,(hl x h1).2,h4⟩
theorem orL_one (c:List Nat) (v:Int):orL c [v]=c.getD v.toNat 0:=by
 unfold orL
 simp
theorem agree_one {g:List (List Int)} (hg:gOk g=true) {v:Int} (h0:0≤v) (h1:v < (g.length:Int)):agree (setL g [v]) (clo g v.toNat):=by
 have:=agree_set hg (l:=[v]) (fun x hx=>by
  obtain rfl:=List.mem_singleton.1 hx
  exact ⟨h0,h1⟩)
 rw [orL_one] at this
 exact this
def seenN (g:List (List Int)) (d:Int):Nat:=orL (closN g g.length) (g.getD d.toNat [])
def bodB (g:List (List Int)) (born:List Int) (b:T_impl_Body):Bool:=
 lineB b.Line && (decide (0≤b.Ins) && decide (b.Ins≤(g.length:Int) - 1)) && (b.Ord == born.getD b.Ins.toNat 0) && rise b.Dels g.length && b.Dels.all fun d=>liveN (seenN g d) b
def bstep (g:List (List Int)) (i:Nat) (born:List Int) (b:T_impl_Body):List Int⊕(Bool⊕List Int):=
 if bodB g born b=true then .inl (born.set b.Ins.toNat (born.getD b.Ins.toNat 0+1)) else .inr (.inl false)
def bornOf (w:T_impl_Weave):Bool⊕List Int:=goE (bstep w.Parents) .inr w.Bodies 0 (List.replicate w.Parents.length 0)
def finB (w:T_impl_Weave) (born:List Int):Bool:=(List.range w.Parents.length).all fun v=>decide (born.getD v 0≤80) && decide ((places (clo w.Parents v) w).length≤80)
def wOk (w:T_impl_Weave):Bool:=gOk w.Parents && decide (w.Bodies.length≤300) && match bornOf w with
 | .inl b=>b
 | .inr born=>finB w born
theorem us_get {c:List Nat} {v:Int} (h0:0≤v) (h1:v < (c.length:Int)):zX (us c) v=some ((c.getD v.toNat 0:Nat):Int):=by
 have hl:(us c).length=c.length:=by simp [us]
 rw [geti_in h0 (by omega)]
 congr 1
 simp only [us,List.getElem_map]
 rw [List.getD_eq_getElem?_getD,List.getElem?_eq_getElem (by omega)]
 rfl
theorem goE_inl {α β ρ:Type} {step:Nat→β→α→β⊕ρ} {fin:β→ρ} (J:ρ→Prop) (I:Nat→β→Prop):∀ (l:List α) (i:Nat) (b:β),I i b→(∀ i x b,I i b→match step i b x with | .inl b'=>I (i+1) b' | .inr r=>J r)→(∀ b i,I i b→J (fin b))→J (goE step fin l i b)
 | [],i,b,h,_,hf=>hf b i h
 | x :: l,i,b,h,hs,hf=>by
  have:=hs i x b h
  simp only [goE]
  split
  ·rename_i b' hb
   rw [hb] at this
   exact goE_inl J I l (i+1) b' this hs hf
  ·rename_i r hr
   rw [hr] at this
   exact this
def bornI (n:Nat) (i:Nat) (born:List Int):Prop:=born.length=n∧∀ v,0≤born.getD v 0∧born.getD v 0≤i
theorem bornI_0 (n:Nat):bornI n 0 (List.replicate n 0):=⟨by simp,fun v=>by
 rw [List.getD_eq_getElem?_getD,List.getElem?_replicate]
 split <;> simp⟩
theorem getD_setK {α:Type} (l:List α) (v u:Nat) (a d:α):(l.set v a).getD u d=if v=u∧u < l.length then a else l.getD u d:=by
 simp only [List.getD_eq_getElem?_getD,List.getElem?_set]
 by_cases h:v=u
 ·subst h
  by_cases h2:v < l.length
  ·simp [h2]
  ·simp [h2]
 ·simp [h]
theorem bornI_set {n i:Nat} {born:List Int} (h:bornI n i born) {v:Nat}:bornI n (i+1) (born.set v (born.getD v 0+1)):=by
 refine ⟨by rw [List.length_set]; exact h.1,fun u=>?_⟩
 have hu:=h.2 u
 have hv:=h.2 v
 rw [getD_setK]
 split <;> omega
theorem born_get {n i:Nat} {born:List Int} (h:bornI n i born) {v:Int} (h0:0≤v) (h1:v≤(n:Int) - 1):zX born v=some (born.getD v.toNat 0):=by
 have:=h.1
 rw [geti_in h0 (by omega),List.getD_eq_getElem?_getD,List.getElem?_eq_getElem (by omega)]
 rfl
theorem bornOf_I {w:T_impl_Weave} (hl:w.Bodies.length≤300):match bornOf w with | .inl b=>b=false | .inr born=>born.length=w.Parents.length∧∀ v,0≤born.getD v 0:=by
 unfold bornOf
 refine goE_inl (J:=fun (r:Bool⊕List Int)=>match r with | .inl b=>b=false | .inr born=>born.length=w.Parents.length∧∀ v,0≤born.getD v 0) (bornI w.Parents.length) w.Bodies 0 _ (bornI_0 _) (fun i x b hI=>?_) (fun b i hI=>⟨hI.1,fun v=>(hI.2 v).1⟩)
 unfold bstep
 by_cases q:bodB w.Parents b x=true
 ·rw [if_pos q]
  exact bornI_set hI
 ·rw [if_neg q]
theorem bodiesI {w:T_impl_Weave} (hg:gOk w.Parents=true) (hw:delsOk w) (hb:w.Bodies.length≤300) :
  zW (fun (s':Int×(List Int))=>jB w (us (closN w.Parents w.Parents.length)) s'.1 s'.2) (0,List.replicate w.Parents.length 0)=some (bornOf w):=by
 have hgl:=gOk_len hg
 have hcl:(closN w.Parents w.Parents.length).length=w.Parents.length:=closN_len _ _
 have hul:(us (closN w.Parents w.Parents.length)).length=w.Parents.length:=by rw [show (us (closN w.Parents w.Parents.length)).length=(closN w.Parents w.Parents.length).length by simp [us],hcl]
 have hlt:=closN_lt hgl w.Parents.length (Nat.le_refl _)
 have:=loopE (body:=fun (s':Int×(List Int))=>jB w (us (closN w.Parents w.Parents.length)) s'.1 s'.2) (fun i b=>((i:Int),b)) w.Bodies (bstep w.Parents) .inr (bornI w.Parents.length) (fun i x born hi hil hI=>by
  have hx:=List.mem_of_getElem? hi
  have hdl:=hw.2 x hx
  have step:jB w (us (closN w.Parents w.Parents.length)) i born=some (if bodB w.Parents born x=true then .inl (((i+1:Nat):Int),born.set x.Ins.toNat (born.getD x.Ins.toNat 0+1)) else .inr (.inl false)):=by
   unfold jB bodB
   rw [ifT (by simpa using hil),zQ,hi,Option.bind_some,lineI_eq,Option.bind_some,hul,isPlace_eq (by omega) (by omega),ascends_eq hdl (by omega) (by omega)]
   cases lineB x.Line with
   | false=>rfl
   | true =>
    have e1:(decide (0≤x.Ins) && decide (x.Ins < (w.Parents.length:Int)))=(decide (0≤x.Ins) && decide (x.Ins≤(w.Parents.length:Int) - 1)):=by
     rw [Bool.eq_iff_iff]
     simp
     omega
    simp only [Option.bind_some,Bool.not_true,Bool.false_eq_true,if_false,e1]
    cases q1:(decide (0≤x.Ins) && decide (x.Ins≤(w.Parents.length:Int) - 1)) with
    | false=>rfl
    | true =>
     simp only [Bool.and_eq_true,decide_eq_true_eq] at q1
     simp only [Option.bind_some,Bool.not_true,Bool.false_eq_true,if_false,born_get hI q1.1 q1.2]
     cases q2:(x.Ord == born.getD x.Ins.toNat 0) with
     | false =>
      have:(x.Ord != born.getD x.Ins.toNat 0)=true:=by simp only [bne,q2]; rfl
      rw [this]
      rfl
     | true =>
      have:(x.Ord != born.getD x.Ins.toNat 0)=false:=by simp only [bne,q2]; rfl
      rw [this]
      simp only [Option.bind_some,Bool.false_eq_true,if_false]
      cases q3:rise x.Dels (w.Parents.length:Int) with
      | false=>rfl
      | true =>
       simp only [Option.bind_some,Bool.not_true,Bool.false_eq_true,if_false]
       have hloop:=loopAllL (body:=fun s'=>impl_bodiesOk_l3 w (us (closN w.Parents w.Parents.length)) x s') (good:=.inr ()) (bad:=.inl (.inr (.inl false))) x.Dels (fun d=>liveN (seenN w.Parents d) x) (fun k d hk hkl=>by
        have hdm:=rise_mem q3 (List.mem_of_getElem? hk)
        have hdn:d.toNat < w.Parents.length:=by omega
        have hgd:zX w.Parents d=some (w.Parents[d.toNat]'hdn):=geti_in hdm.1 (by omega)
        have hgD:w.Parents.getD d.toNat []=w.Parents[d.toNat]'hdn:=by rw [List.getD_eq_getElem?_getD,List.getElem?_eq_getElem hdn]; rfl
        unfold impl_bodiesOk_l3
        rw [ifT (by simpa using hkl),zQ,hk,Option.bind_some,hgd,Option.bind_some,unionOf_eq hlt (fun y hy=>by
         have:=gOk_mem hg hdn hy
         rw [hcl]
         omega) (by have:=(gOk_at hg hdn).1; omega),Option.bind_some]
        show (impl_Body_isLive x _).bind _=_
        rw [isLive_eq (orL_lt hlt _) hdl,Option.bind_some,wkS k (by omega)]
        unfold seenN
        rw [hgD]
        cases liveN (orL (closN w.Parents w.Parents.length) w.Parents[d.toNat]) x <;> rfl) (by
        unfold impl_bodiesOk_l3
        rw [ifF (by simp)])
       rw [hloop,Option.bind_some]
       have hbv:=hI.2 x.Ins.toNat
       rw [wk64 (x:=born.getD x.Ins.toNat 0+1) (by omega) (by omega)]
       simp only [Bool.and_true,Bool.true_and]
       cases x.Dels.all (fun d=>liveN (seenN w.Parents d) x) with
       | false=>rfl
       | true =>
        simp only [if_true]
        unfold impl_bodiesOk_j3
        rw [wkS i (by omega)]
  unfold bstep
  by_cases q:bodB w.Parents born x=true
  ·left
   refine ⟨_,if_pos q,?_,bornI_set hI⟩
   show jB w _ i born=_
   rw [step,if_pos q]
  ·right
   refine ⟨_,if_neg q,?_⟩
   show jB w _ i born=_
   rw [step,if_neg q]) (fun b hI=>by
  show jB w _ w.Bodies.length b=_
  unfold jB
  rw [ifF (by simp)]) (bornI_0 _)
 exact this
theorem bodiesS {w:T_impl_Weave} (hg:gOk w.Parents=true) (hw:delsOk w) (hb:w.Bodies.length≤300) (hx:∀ b ∈ w.Bodies,b.Line.size≤1000000000) :
  zW (fun (s':Int×(List Int))=>jD w (w.Parents.map (setL w.Parents)) s'.1 s'.2) (0,List.replicate w.Parents.length 0)=some (bornOf w):=by
 have hgl:=gOk_len hg
 have:=loopE (body:=fun (s':Int×(List Int))=>jD w (w.Parents.map (setL w.Parents)) s'.1 s'.2) (fun i b=>((i:Int),b)) w.Bodies (bstep w.Parents) .inr (bornI w.Parents.length) (fun i x born hi hil hI=>by
  have hxm:=List.mem_of_getElem? hi
  have hdl:=hw.2 x hxm
  have step:jD w (w.Parents.map (setL w.Parents)) i born=some (if bodB w.Parents born x=true then .inl (((i+1:Nat):Int),born.set x.Ins.toNat (born.getD x.Ins.toNat 0+1)) else .inr (.inl false)):=by
   unfold jD bodB
   rw [ifT (by simpa using hil),zQ,hi,Option.bind_some,lineS_eq (hx x hxm),Option.bind_some,wk64 (x:=(w.Parents.length:Int) - 1) (by omega) (by omega),l01In_eq,l05Rise_eq hdl (by omega) (by omega)]
   cases lineB x.Line with
   | false=>rfl
   | true =>
    simp only [Option.bind_some,Bool.not_true,Bool.false_eq_true,if_false]
    cases q1:(decide (0≤x.Ins) && decide (x.Ins≤(w.Parents.length:Int) - 1)) with
    | false=>rfl
    | true =>
     simp only [Bool.and_eq_true,decide_eq_true_eq] at q1
     simp only [Option.bind_some,Bool.not_true,Bool.false_eq_true,if_false,born_get hI q1.1 q1.2]
     cases q2:(x.Ord == born.getD x.Ins.toNat 0) with
     | false =>
      have:(x.Ord != born.getD x.Ins.toNat 0)=true:=by simp only [bne,q2]; rfl
      rw [this]
      rfl
     | true =>
      have:(x.Ord != born.getD x.Ins.toNat 0)=false:=by simp only [bne,q2]; rfl
      rw [this]
      simp only [Option.bind_some,Bool.false_eq_true,if_false]
      cases q3:rise x.Dels (w.Parents.length:Int) with
      | false=>rfl
      | true =>
       simp only [Option.bind_some,Bool.not_true,Bool.false_eq_true,if_false]
       have hloop:=loopAllL (body:=fun s'=>spec_WeaveOk_l3 (w.Parents.map (setL w.Parents)) x s') (good:=.inr ()) (bad:=.inl (.inr (.inl false))) x.Dels (fun d=>liveN (seenN w.Parents d) x) (fun k d hk hkl=>by
        have hdm:=rise_mem q3 (List.mem_of_getElem? hk)
        have hdn:d.toNat < w.Parents.length:=by omega
        have hgd:zX (w.Parents.map (setL w.Parents)) d=some (setL w.Parents (w.Parents[d.toNat]'hdn)):=by
         rw [geti_in hdm.1 (by rw [List.length_map]; omega),List.getElem_map]
        have hgD:w.Parents.getD d.toNat []=w.Parents[d.toNat]'hdn:=by rw [List.getD_eq_getElem?_getD,List.getElem?_eq_getElem hdn]; rfl
        unfold spec_WeaveOk_l3
        rw [ifT (by simpa using hkl),zQ,hk,Option.bind_some,hgd,Option.bind_some]
        show (spec_l06Live x _).bind _=_
        rw [l06Live_eq (agree_set hg (fun y hy=>by
         have:=gOk_mem hg hdn hy
         omega)) hdl,Option.bind_some,wkS k (by omega)]
        unfold seenN
        rw [hgD]
        cases liveN (orL (closN w.Parents w.Parents.length) w.Parents[d.toNat]) x <;> rfl) (by
        unfold spec_WeaveOk_l3
        rw [ifF (by simp)])
       rw [hloop,Option.bind_some]
       have hbv:=hI.2 x.Ins.toNat
       rw [wk64 (x:=born.getD x.Ins.toNat 0+1) (by omega) (by omega)]
       simp only [Bool.and_true,Bool.true_and]
       cases x.Dels.all (fun d=>liveN (seenN w.Parents d) x) with
       | false=>rfl
       | true =>
        simp only [if_true]
        unfold spec_WeaveOk_j4
        rw [wkS i (by omega)]
  unfold bstep
  by_cases q:bodB w.Parents born x=true
  ·left
   refine ⟨_,if_pos q,?_,bornI_set hI⟩
   show jD w _ i born=_
   rw [step,if_pos q]
  ·right
   refine ⟨_,if_neg q,?_⟩
   show jD w _ i born=_
   rw [step,if_neg q]) (fun b hI=>by
  show jD w _ w.Bodies.length b=_
  unfold jD
  rw [ifF (by simp)]) (bornI_0 _)
 exact this
theorem bodiesOkI {w:T_impl_Weave} (hg:gOk w.Parents=true) (hw:delsOk w) (hb:w.Bodies.length≤300):impl_bodiesOk w (us (closN w.Parents w.Parents.length))=some (match bornOf w with | .inl b=>b | .inr born=>finB w born):=by
 have hgl:=gOk_len hg
 have hcl:(closN w.Parents w.Parents.length).length=w.Parents.length:=closN_len _ _
 have hul:(us (closN w.Parents w.Parents.length)).length=w.Parents.length:=by rw [show (us (closN w.Parents w.Parents.length)).length=(closN w.Parents w.Parents.length).length by simp [us],hcl]
 unfold impl_bodiesOk
 rw [hul,mkl_in (by omega) (by omega),Option.bind_some,Int.toNat_natCast,bodiesI hg hw hb,Option.bind_some]
 have hbo:=bornOf_I (w:=w) hb
 cases h:bornOf w with
 | inl b=>rfl
 | inr born =>
  rw [h] at hbo
  show impl_bodiesOk_j1 w _ born=some (finB w born)
  unfold impl_bodiesOk_j1 finB
  have hloop:=loopAllL (body:=fun s'=>impl_bodiesOk_l1 w (us (closN w.Parents w.Parents.length)) born s') (good:=.inr ()) (bad:=.inl false) (List.range w.Parents.length) (fun v=>decide (born.getD v 0≤80) && decide ((places (clo w.Parents v) w).length≤80)) (fun i v hv hvl=>by
   rw [List.length_range] at hvl
   rw [List.getElem?_range hvl] at hv
   obtain rfl:=zso hv
   unfold impl_bodiesOk_l1
   have hc:zX (us (closN w.Parents w.Parents.length)) (i:Int)=some ((clo w.Parents i:Nat):Int):=by
    rw [us_get (by omega) (by omega),Int.toNat_natCast]
    rfl
   have hbg:zX born (i:Int)=some (born.getD i 0):=by
    rw [zQ,List.getD_eq_getElem?_getD,List.getElem?_eq_getElem (by omega)]
    rfl
   rw [hul,ifT (by simpa using hvl),hc,Option.bind_some,hbg,Option.bind_some]
   have hlv:impl_Weave_liveIn (T_impl_Weave.mk w.Parents w.Bodies) ((clo w.Parents i:Nat):Int)=some (ints (places (clo w.Parents i) w)):=liveIn_eq (clo_lt hg i) hw
   rw [hlv,Option.bind_some,ints_len,wkS i (by omega)]
   by_cases q1:born.getD i 0≤80
   ·rw [ifF (b:=decide (born.getD i 0 > 80)) (decide_eq_false (by omega)),decide_eq_true q1,Option.bind_some,Bool.true_and]
    by_cases q2:(places (clo w.Parents i) w).length≤80
    ·rw [ifF (by simp; omega),decide_eq_true q2]
     rfl
    ·rw [ifT (by simp; omega),decide_eq_false q2]
     rfl
   ·rw [ifT (b:=decide (born.getD i 0 > 80)) (decide_eq_true (by omega)),decide_eq_false q1,Option.bind_some]
    rfl) (by
   unfold impl_bodiesOk_l1
   rw [ifF (by simp [hul])])
  rw [hloop,Option.bind_some]
  cases (List.range w.Parents.length).all (fun v=>decide (born.getD v 0≤80) && decide ((places (clo w.Parents v) w).length≤80)) <;> rfl
theorem weaveOkI {w:T_impl_Weave} (hl:w.Parents.length≤10000000) (hw:delsOk w):impl_WeaveOk w=some (wOk w):=by
 have hwl:=hw.1
 unfold impl_WeaveOk wOk
 rw [graphOkI_eq hl,Option.bind_some]
 by_cases q1:w.Bodies.length≤300
 ·rw [ifT (b:=decide ((w.Bodies.length:Int)≤300)) (by simp; omega),decide_eq_true q1]
  cases q2:gOk w.Parents with
  | false=>rfl
  | true =>
   simp only [Option.bind_some,if_true]
   rw [closures_eq q2,Option.bind_some]
   show (impl_bodiesOk w _).bind _ >>= _=_
   rw [bodiesOkI q2 hw q1]
   rfl
 ·rw [ifF (b:=decide ((w.Bodies.length:Int)≤300)) (by simp; omega),decide_eq_false q1]
  cases gOk w.Parents <;> rfl
theorem proper_loop {w:T_impl_Weave} (hg:gOk w.Parents=true):zW (fun (s':Int×(List (List Bool)))=>spec_WeaveOk_l4 w s'.1 s'.2) (0,[])=some (w.Parents.map (setL w.Parents)):=by
 have hgl:=gOk_len hg
 have:=loopE (body:=fun (s':Int×(List (List Bool)))=>spec_WeaveOk_l4 w s'.1 s'.2) (fun i b=>((i:Int),b)) w.Parents (fun _ (b:List (List Bool)) x=>(.inl (b++[setL w.Parents x]):List (List Bool)⊕List (List Bool))) id (fun i b=>b.length=i) (fun i x b hi hil hI=>by
  left
  refine ⟨_,rfl,?_,by simp [hI]⟩
  show spec_WeaveOk_l4 w i b=_
  unfold spec_WeaveOk_l4
  have hxl:x.length≤4:=by
   have:=(gOk_at hg hil).1
   rw [List.getElem?_eq_getElem hil] at hi
   obtain rfl:=zso hi
   exact this
  rw [ifT (by simpa using hil),zQ,hi,Option.bind_some,l05Set_eq hg (by omega),Option.bind_some,appn_in (by simp; omega),Option.bind_some,wkS i (by omega)]) (fun b hI=>by
  show spec_WeaveOk_l4 w w.Parents.length b=_
  unfold spec_WeaveOk_l4
  rw [ifF (by simp)]
  rfl) (b0:=[]) rfl
 have key:∀ (l:List (List Int)) (i:Nat) (out:List (List Bool)),goE (ρ:=List (List Bool)) (fun _ (b:List (List Bool)) x=>.inl (b++[setL w.Parents x])) id l i out=out++l.map (setL w.Parents):=by
  intro l
  induction l with
  | nil=>intro i out; simp [goE]
  | cons x l ih=>intro i out; simp only [goE]; rw [ih]; simp
 have e0:((0:Nat):Int)=0:=rfl
 rw [e0] at this
 rw [this,key,List.nil_append]
theorem closureS {w:T_impl_Weave} (hg:gOk w.Parents=true) (v:Int):spec_l06Closure w v=some (setL w.Parents [v]):=by
 unfold spec_l06Closure
 rw [l05Set_eq hg (by simp),Option.bind_some]
theorem weaveOkS {w:T_impl_Weave} (hl:w.Parents.length≤10000000) (hw:delsOk w) (hx:∀ b ∈ w.Bodies,b.Line.size≤1000000000):spec_WeaveOk w=some (wOk w):=by
 have hwl:=hw.1
 unfold spec_WeaveOk wOk
 rw [graphOkS_eq hl,Option.bind_some]
 cases q2:gOk w.Parents with
 | false=>rfl
 | true =>
  simp only [Bool.not_true,Bool.false_eq_true,if_false,Option.bind_some,Bool.true_and]
  by_cases q1:w.Bodies.length≤300
  ·rw [ifF (b:=decide ((w.Bodies.length:Int) > 300)) (by simp; omega),decide_eq_true q1,Bool.true_and]
   have hgl:=gOk_len q2
   rw [mkl_in (by omega) (by omega),Option.bind_some,Int.toNat_natCast,proper_loop q2,Option.bind_some]
   unfold spec_WeaveOk_j1
   rw [bodiesS q2 hw q1 hx,Option.bind_some]
   have hbo:=bornOf_I (w:=w) q1
   cases h:bornOf w with
   | inl b=>rfl
   | inr born =>
    rw [h] at hbo
    show spec_WeaveOk_j2 w born=some (finB w born)
    unfold spec_WeaveOk_j2 finB
    have hloop:=loopAllL (body:=fun s'=>spec_WeaveOk_l1 w born s') (good:=.inr ()) (bad:=.inl false) (List.range w.Parents.length) (fun v=>decide (born.getD v 0≤80) && decide ((places (clo w.Parents v) w).length≤80)) (fun i v hv hvl=>by
     rw [List.length_range] at hvl
     rw [List.getElem?_range hvl] at hv
     obtain rfl:=zso hv
     unfold spec_WeaveOk_l1
     have hbg:zX born (i:Int)=some (born.getD i 0):=by
      rw [zQ,List.getD_eq_getElem?_getD,List.getElem?_eq_getElem (by omega)]
      rfl
     rw [ifT (by simpa using hvl),hbg,Option.bind_some]
     have hcl:spec_l06Closure (T_impl_Weave.mk w.Parents w.Bodies) (i:Int)=some (setL w.Parents [(i:Int)]):=closureS (w:=w) q2 _
     have hpl:spec_l06Places (T_impl_Weave.mk w.Parents w.Bodies) (setL w.Parents [(i:Int)])=some (ints (places (clo w.Parents i) w)):=by
      have:=agree_one q2 (v:=(i:Int)) (by omega) (by omega)
      rw [Int.toNat_natCast] at this
      exact l06Places_eq this hw
     rw [hcl]
     simp only [Option.bind_some]
     rw [hpl]
     simp only [Option.bind_some]
     rw [ints_len,wkS i (by omega)]
     by_cases q1:born.getD i 0≤80
     ·rw [ifF (b:=decide (born.getD i 0 > 80)) (decide_eq_false (by omega)),decide_eq_true q1,Option.bind_some,Bool.true_and]
      by_cases q2:(places (clo w.Parents i) w).length≤80
      ·rw [ifF (by simp; omega),decide_eq_true q2]
       rfl
      ·rw [ifT (by simp; omega),decide_eq_false q2]
       rfl
     ·rw [ifT (b:=decide (born.getD i 0 > 80)) (decide_eq_true (by omega)),decide_eq_false q1,Option.bind_some]
      rfl) (by
     unfold spec_WeaveOk_l1
     rw [ifF (by simp)])
    rw [hloop,Option.bind_some]
    cases (List.range w.Parents.length).all (fun v=>decide (born.getD v 0≤80) && decide ((places (clo w.Parents v) w).length≤80)) <;> rfl
  ·rw [ifT (b:=decide ((w.Bodies.length:Int) > 300)) (by simp; omega),decide_eq_false q1]
   rfl
end Go.TV.F
namespace Go.TV.F
open Go.TV
structure WSm (w:T_impl_Weave):Prop where
 p:w.Parents.length≤10000000
 d:delsOk w
 l:∀ b ∈ w.Bodies,b.Line.size≤1000000000
theorem all_ne (v:Int):∀ l:List Int,l.all (fun x=>!(x == v))=!l.contains v
 | []=>rfl
 | x :: l=>by
  rw [List.all_cons,List.contains_cons,Bool.not_or,all_ne v l]
  have:(x == v)=(v == x):=by rw [Bool.eq_iff_iff,beq_iff_eq,beq_iff_eq]; exact eq_comm
  rw [this]
theorem l07In_eq {l:List Int} {v:Int} (hl:l.length≤1000000000):spec_l07In l v=some (l.contains v):=by
 unfold spec_l07In
 have:=loopAllL (body:=fun s'=>spec_l07In_l1 l v s') (good:=.inr ()) (bad:=.inl true) l (fun x=>!(x == v)) (fun i x hi hil=>by
  unfold spec_l07In_l1
  rw [ifT (by simpa using hil),zQ,hi,Option.bind_some,wkS i (by omega)]
  cases (x == v) <;> rfl) (by
  unfold spec_l07In_l1
  rw [ifF (by simp)])
 rw [this,Option.bind_some]
 rw [all_ne]
 cases l.contains v <;> rfl
end Go.TV.F
namespace Go.TV.F
open Go.TV
def stat (g:List (List Int)) (b:T_impl_Body):Bool:=lineB b.Line && (decide (0≤b.Ins) && decide (b.Ins≤(g.length:Int) - 1)) && rise b.Dels g.length && b.Dels.all fun d=>liveN (seenN g d) b
def inc (c:Int→Int) (x:Int):Int→Int:=fun y=>if y=x then c y+1 else c y
def okF (g:List (List Int)):(Int→Int)→List T_impl_Body→Prop
 | _,[]=>True
 | c,b :: l=>stat g b=true∧b.Ord=c b.Ins∧okF g (inc c b.Ins) l
def cnts:(Int→Int)→List T_impl_Body→Int→Int
 | c,[]=>c
 | c,b :: l=>cnts (inc c b.Ins) l
def c0:Int→Int:=fun _=>0
structure WR (w:T_impl_Weave):Prop where
 g:gOk w.Parents=true
 n:w.Bodies.length≤300
 o:okF w.Parents c0 w.Bodies
 b:∀ v:Nat,v < w.Parents.length→cnts c0 w.Bodies v≤80
 p:∀ v:Nat,v < w.Parents.length→(places (clo w.Parents v) w).length≤80
theorem okF_mem {g:List (List Int)}:∀ {l:List T_impl_Body} {c:Int→Int},okF g c l→∀ b ∈ l,stat g b=true
 | [],_,_,_,h=>by cases h
 | b :: l,c,h,x,hx=>by
  rcases List.mem_cons.1 hx with rfl | hx
  ·exact h.1
  ·exact okF_mem h.2.2 x hx
theorem rise_len:∀ {n:Nat} {l:List Int},rise l (n:Int)=true→l.length≤n:=by
 intro n l h
 -- the numbers ascend,so the i-th is at least i
 have key:∀ i,i < l.length→(i:Int)≤l.getD i 0:=by
  intro i
  induction i with
  | zero =>
   intro hi
   have:=List.all_eq_true.1 h 0 (List.mem_range.2 hi)
   unfold riseAt at this
   simp only [Bool.and_eq_true,decide_eq_true_eq] at this
   omega
  | succ i ih =>
   intro hi
   have h1:=ih (by omega)
   have:=List.all_eq_true.1 h (i+1) (List.mem_range.2 hi)
   unfold riseAt at this
   simp only [Bool.and_eq_true,Bool.or_eq_true,decide_eq_true_eq,beq_iff_eq,Nat.add_sub_cancel] at this
   rcases this.2 with q | q <;> omega
 rcases Nat.eq_zero_or_pos l.length with q | q
 ·omega
 ·have h1:=key (l.length - 1) (by omega)
  have:=List.all_eq_true.1 h (l.length - 1) (List.mem_range.2 (by omega))
  unfold riseAt at this
  simp only [Bool.and_eq_true,decide_eq_true_eq] at this
  omega
theorem WR.sm {w:T_impl_Weave} (h:WR w):WSm w:=by
 have hg:=gOk_len h.g
 have hn:=h.n
 refine ⟨by omega,⟨by omega,fun b hb=>?_⟩,fun b hb=>?_⟩
 ·have:=okF_mem h.o b hb
  unfold stat at this
  simp only [Bool.and_eq_true] at this
  have:=rise_len this.1.2
  omega
 ·have:=okF_mem h.o b hb
  unfold stat lineB at this
  simp only [Bool.and_eq_true,decide_eq_true_eq] at this
  omega
theorem WR.line {w:T_impl_Weave} (h:WR w) {b:T_impl_Body} (hb:b ∈ w.Bodies):lineB b.Line=true:=by
 have:=okF_mem h.o b hb
 unfold stat at this
 simp only [Bool.and_eq_true] at this
 exact this.1.1.1
end Go.TV.F
namespace Go.TV.F
open Go.TV
end Go.TV.F
namespace Go.TV.F
open Go.TV
def lens (bh:List (List ByteArray)):Nat:=sumOf List.length bh
def trueN (st:List Bool):Nat:=st.countP id
structure WvI (nb:Nat) (lines:List ByteArray) (k:Nat) (b:Nat×List (List ByteArray)×List Bool):Prop where
 at_:b.1≤nb
 bl:b.2.1.length=nb+1
 sl:b.2.2.length=nb
 cn:lens b.2.1+trueN b.2.2≤k
 mm:∀ h ∈ b.2.1,∀ x ∈ h,x ∈ lines
end Go.TV.F
namespace Go.TV.F
open Go.TV
end Go.TV.F
namespace Go.TV.F
open Go.TV
def w0:T_impl_Weave:=⟨[],[]⟩
end Go.TV.F
namespace Go.TV.F
open Go.TV
def txt (w:T_impl_Weave) (v:Nat):List ByteArray:=(w.Bodies.filter (liveN (clo w.Parents v))).map (·.Line)
structure BIn (n:Nat) (b:T_impl_Body):Prop where
 i0:0≤b.Ins
 i1:b.Ins < n
 d:∀ x ∈ b.Dels,0≤x∧x < n
end Go.TV.F
namespace Go.TV.F
open Go.TV
def sizesF (s:T_impl_Store):List Int:=s.Files.map fun w=>(w.Parents.length:Int)
def fileB (w:T_impl_Weave):Bool:=!((w.Parents.length:Int) == 0) && wOk w
def storeB (s:T_impl_Store):Bool:=decide (s.Files.length≤12) && s.Files.all fileB && commitsB s.Commits (sizesF s)
structure StSm (s:T_impl_Store):Prop where
 c:s.Commits.length≤2000000
 f:s.Files.length≤2000000
 cs:∀ x ∈ s.Commits,smC x
 fs:∀ w ∈ s.Files,WSm w
theorem graphsI_eq {s:T_impl_Store} (hs:StSm s):impl_Store_graphs s=some (s.Files.map fun w=>w.Parents):=by
 unfold impl_Store_graphs
 have hf:=hs.f
 rw [map_loop (body:=fun (s':Int×(List (List (List Int))))=>impl_Store_graphs_l1 s s'.1 s'.2) s.Files (fun w=>w.Parents) id (by omega) (fun k x out hx hk ho=>by
  simp only [impl_Store_graphs_l1]
  rw [ifT (by simpa using hk),zQ,hx,Option.bind_some,appn_in (by simp; omega),Option.bind_some,wkS k (by omega)]) (fun out=>by
  simp only [impl_Store_graphs_l1]
  rw [ifF (by simp)]
  rfl)]
 rfl
theorem sizesOf_eq {g:List (List (List Int))} (hg:g.length≤2000000):impl_sizesOf g=some (g.map fun x=>(x.length:Int)):=by
 unfold impl_sizesOf
 rw [map_loop (body:=fun (s':Int×(List Int))=>impl_sizesOf_l1 g s'.1 s'.2) g (fun x=>(x.length:Int)) id (by omega) (fun k x out hx hk ho=>by
  simp only [impl_sizesOf_l1]
  rw [ifT (by simpa using hk),zQ,hx,Option.bind_some,appn_in (by simp; omega),Option.bind_some,wkS k (by omega)]) (fun out=>by
  simp only [impl_sizesOf_l1]
  rw [ifF (by simp)]
  rfl)]
 rfl
theorem versionsS_eq {s:T_impl_Store} (hs:StSm s):spec_l15Versions s=some (sizesF s):=by
 unfold spec_l15Versions sizesF
 have hf:=hs.f
 rw [map_loop (body:=fun (s':Int×(List Int))=>spec_l15Versions_l1 s s'.1 s'.2) s.Files (fun w=>(w.Parents.length:Int)) id (by omega) (fun k x out hx hk ho=>by
  simp only [spec_l15Versions_l1]
  rw [ifT (by simpa using hk),zQ,hx,Option.bind_some,appn_in (by simp; omega),Option.bind_some,wkS k (by omega)]) (fun out=>by
  simp only [spec_l15Versions_l1]
  rw [ifF (by simp)]
  rfl)]
 rfl
theorem storeI_eq {s:T_impl_Store} (hs:StSm s):impl_StoreOk s=some (storeB s):=by
 unfold impl_StoreOk storeB
 have hf:=hs.f
 rw [all_loopL s.Files fileB (fun k x hx hk=>by
  have hm:=hs.fs x (List.mem_of_getElem? hx)
  unfold impl_StoreOk_l1
  rw [ifT (by simpa using hk),zQ,hx]
  simp only [Option.bind_some]
  rw [weaveOkI hm.p hm.d]
  simp only [Option.bind_some,orO,wkS k (show k < 1000000000 by omega)]
  exact fin_if (by unfold fileB; simp)) (by
  unfold impl_StoreOk_l1
  rw [ifF (by simp)]),Option.bind_some]
 cases q:s.Files.all fileB with
 | false=>simp
 | true =>
  simp only [if_true,Bool.and_true]
  unfold impl_StoreOk_j1
  rw [show T_impl_Store.mk s.Commits s.Files=s from rfl,graphsI_eq hs]
  simp only [Option.bind_some]
  rw [sizesOf_eq (by simpa using hf)]
  simp only [Option.bind_some]
  have e:(s.Files.map fun w=>w.Parents).map (fun x=>(x.length:Int))=sizesF s:=by unfold sizesF; rw [List.map_map]; rfl
  rw [e,commitsI_eq hs.c hs.cs]
  simp only [Option.bind_some,andO]
  congr 2
  rw [decide_eq_decide]
  omega
theorem storeS_eq {s:T_impl_Store} (hs:StSm s):spec_StoreOk s=some (storeB s):=by
 unfold spec_StoreOk storeB
 have hf:=hs.f
 by_cases q0:s.Files.length≤12
 ·rw [ifF (decide_eq_false (by omega)),decide_eq_true q0,all_loopL s.Files fileB (fun k x hx hk=>by
   have hm:=hs.fs x (List.mem_of_getElem? hx)
   unfold spec_StoreOk_l1
   rw [ifT (by simpa using hk),zQ,hx]
   simp only [Option.bind_some]
   rw [show T_impl_Weave.mk x.Parents x.Bodies=x from rfl,weaveOkS hm.p hm.d hm.l]
   simp only [Option.bind_some,orO,wkS k (show k < 1000000000 by omega)]
   exact fin_if (by unfold fileB; cases wOk x <;> cases ((x.Parents.length:Int) == 0) <;> rfl)) (by
   unfold spec_StoreOk_l1
   rw [ifF (by simp)]),Option.bind_some]
  cases q:s.Files.all fileB with
  | false=>simp
  | true =>
   simp only [if_true,Bool.and_true,Bool.true_and]
   unfold spec_StoreOk_j1
   rw [show T_impl_Store.mk s.Commits s.Files=s from rfl,versionsS_eq hs]
   simp only [Option.bind_some]
   rw [commitsS_eq hs.c hs.cs]
   rfl
 ·rw [ifT (decide_eq_true (by omega)),decide_eq_false q0]
  simp
def whole (w:T_impl_Weave):Nat:=sumOf (fun v=>(txt w v).length) (List.range w.Parents.length)
theorem range_get {n k v:Nat} (h:(List.range n)[k]? = some v):v=k:=by
 have:=(List.getElem?_eq_some_iff.1 h).2
 rw [List.getElem_range] at this
 exact this.symm
end Go.TV.F
namespace Go.TV.F
open Go.TV
theorem reverse_eq {l:List Int} (hl:l.length≤1000000000):slices_Reverse_int_int l=some l.reverse:=by
 unfold slices_Reverse_int_int
 rw [wk64 (by omega) (by omega)]
 obtain ⟨r,h1,h2⟩:=loopM_total (body:=fun (s':Int×Int×(List Int))=>jV s'.1 s'.2.1 s'.2.2) (fun s=>∃ i:Nat,s.1=i∧s.2.1=(l.length:Int) - 1 - i∧2 * i≤l.length+1∧s.2.2.length=l.length∧∀ m,m < l.length→s.2.2[m]? = if m < i∨l.length≤m+i then l[l.length - 1 - m]? else l[m]?) (fun s=>(l.length - s.1).toNat) (fun r=>r=l.reverse) (s:=(0,(l.length:Int) - 1,l))
  ⟨0,rfl,by simp,by omega,rfl,fun m hm=>by rw [if_neg (by omega)]⟩ (fun s hs=>by
  obtain ⟨i',j',t⟩:=s
  obtain ⟨i,h1,h2,h3,h4,h5⟩:=hs
  simp only at h1 h2 h4 h5 ⊢
  subst h1 h2
  unfold jV
  by_cases q:(i:Int) < (l.length:Int) - 1 - i
  ·left
   obtain ⟨j,hj⟩:∃ j:Nat,j=l.length - 1 - i:=⟨_,rfl⟩
   have ej:(l.length:Int) - 1 - i=(j:Int):=by omega
   have g1:t[j]? = l[j]?:=by rw [h5 j (by omega),if_neg (by omega)]
   have g2:t[i]? = l[i]?:=by rw [h5 i (by omega),if_neg (by omega)]
   rw [ifT (by simpa using q),ej,zQ,g1,List.getElem?_eq_getElem (by omega),Option.bind_some,zQ,g2,List.getElem?_eq_getElem (by omega),Option.bind_some,zQ,Int.toNat_natCast,Int.toNat_natCast]
   rw [List.getElem?_eq_getElem (show j < (t.set i l[j]).length by simp; omega),Option.bind_some,wk64 (by omega) (by omega),wk64 (by omega) (by omega)]
   refine ⟨_,rfl,⟨i+1,by simp,by simp only; omega,by omega,by simp [h4],fun m hm=>?_⟩,by simp only; omega⟩
   simp only [List.getElem?_set,List.length_set]
   by_cases e1:j=m
   ·subst e1
    rw [if_pos rfl,if_pos (by omega),if_pos (by omega),← List.getElem?_eq_getElem]
    congr 1
    omega
   ·rw [if_neg e1]
    by_cases e2:i=m
    ·subst e2
     rw [if_pos rfl,if_pos (by omega),if_pos (by omega),← List.getElem?_eq_getElem,hj]
    ·rw [if_neg e2,h5 m hm]
     by_cases e3:m < i∨l.length≤m+i
     ·rw [if_pos e3,if_pos (by omega)]
     ·rw [if_neg e3,if_neg (by omega)]
  ·right
   rw [ifF (by simpa using q)]
   refine ⟨_,rfl,?_⟩
   apply List.ext_getElem?
   intro m
   by_cases hm:m < l.length
   ·rw [h5 m hm,List.getElem?_reverse hm]
    split
    ·rfl
    ·congr 1
     omega
   ·rw [List.getElem?_eq_none (by omega),List.getElem?_eq_none (by simp; omega)])
 rw [h1,h2]
 rfl
def logR (l:List T_impl_Commit) (vs:List Int) (c:Int):List Int:=if (decide (0≤c) && decide (c < l.length) && commitsB l vs)=true then (ints (bitsL (clo (graphC l) c.toNat) 64)).reverse else []
theorem logI_eq {l:List T_impl_Commit} {vs:List Int} {c:Int} (hl:l.length≤2000000) (hs:∀ c ∈ l,smC c):impl_LogOf l vs c=some (logR l vs c):=by
 unfold impl_LogOf logR
 rw [isPlace_eq (by omega) (by omega),Option.bind_some,commitsI_eq hl hs]
 simp only [Option.bind_some,orO]
 cases q1:(decide (0≤c) && decide (c < (l.length:Int))) with
 | false=>rfl
 | true =>
  cases q2:commitsB l vs with
  | false=>rfl
  | true =>
   simp only [Bool.and_eq_true,decide_eq_true_eq] at q1
   have hg:gOk (graphC l)=true:=by
    unfold commitsB at q2
    simp only [Bool.and_eq_true] at q2
    exact q2.1.1.2
   have hlen:(graphC l).length=l.length:=by unfold graphC; simp
   rw [ifF (by rfl),graphI_eq (by omega),Option.bind_some,closures_eq hg,Option.bind_some]
   have hget:zX (us (closN (graphC l) (graphC l).length)) c=some ((clo (graphC l) c.toNat:Nat):Int):=by
    rw [geti_in q1.1 (by unfold us; simp [closN_len,hlen]; omega)]
    unfold us clo
    congr 1
    rw [List.getElem_map,getD_in (by rw [closN_len]; omega)]
   rw [hget,Option.bind_some,setList_eq (clo_lt hg _),Option.bind_some,reverse_eq (by rw [ints_len]; have:=bitsL_len (clo (graphC l) c.toNat) 64; omega)]
   rfl
theorem logS_eq {l:List T_impl_Commit} {vs:List Int} {c:Int} (hl:l.length≤2000000) (hs:∀ c ∈ l,smC c):spec_LogOf l vs c=some (logR l vs c):=by
 unfold spec_LogOf logR
 rw [commitsS_eq hl hs,l01In_eq]
 simp only [Option.bind_some,orO]
 rw [wk64 (by omega) (by omega)]
 have e:(decide (0≤c) && decide (c≤(l.length:Int) - 1))=(decide (0≤c) && decide (c < (l.length:Int))):=by
  congr 1
  rw [decide_eq_decide]
  omega
 rw [e]
 cases q1:(decide (0≤c) && decide (c < (l.length:Int))) with
 | false=>cases commitsB l vs <;> rfl
 | true =>
  cases q2:commitsB l vs with
  | false=>rfl
  | true =>
   simp only [Bool.and_eq_true,decide_eq_true_eq] at q1
   have hg:gOk (graphC l)=true:=by
    unfold commitsB at q2
    simp only [Bool.and_eq_true] at q2
    exact q2.1.1.2
   have hlen:(graphC l).length=l.length:=by unfold graphC; simp
   rw [ifF (by rfl),graphS_eq (by omega),Option.bind_some,l05Set_eq hg (by simp),Option.bind_some]
   have hsl:=setL_len (graphC l) [c]
   have run:∀ (m:Nat) (out:List Int),m≤l.length→out.length+m≤1000000000→zW (fun (s':Int×(List Int))=>spec_LogOf_l1 (setL (graphC l) [c]) s'.1 s'.2) ((m:Int) - 1,out)=some (out++(ints (trues (setL (graphC l) [c]) m)).reverse):=by
    intro m
    induction m with
    | zero =>
     intro out _ _
     rw [qX]
     simp only [spec_LogOf_l1]
     rw [ifF (by simp)]
     simp [trues,ints]
    | succ m ih =>
     intro out h1 h2
     rw [qX]
     simp only [spec_LogOf_l1]
     have em:((m+1:Nat):Int) - 1=(m:Int):=by omega
     rw [em,ifT (by simp),zQ,List.getElem?_eq_getElem (by omega),Option.bind_some,wk64 (by omega) (by omega)]
     have eg:(setL (graphC l) [c]).getD m false=(setL (graphC l) [c])[m]'(by omega):=getD_in (by omega)
     rw [trues_succ,eg]
     cases hb:(setL (graphC l) [c])[m]'(by omega) with
     | true =>
      rw [ifT rfl,ifT rfl,appn_in (by simp; omega)]
      simp only [Option.bind_some]
      refine (ih (out++[(m:Int)]) (by omega) (by simp; omega)).trans ?_
      simp [ints]
     | false =>
      rw [ifF rfl,ifF rfl]
      simp only [Option.bind_some]
      exact ih out (by omega) (by omega)
   have hm:=run l.length [] (by omega) (by simp; omega)
   rw [hm,List.nil_append,Option.bind_some]
   have hb:=setL_bits hg [c] (fun x hx=>by simp at hx; subst hx; omega)
   rw [hlen] at hb
   rw [hb,hlen.symm]
   have eo:orL (closN (graphC l) (graphC l).length) [c]=clo (graphC l) c.toNat:=by
    unfold orL clo
    simp
   rw [eo]
   rfl
theorem logR_len (l:List T_impl_Commit) (vs:List Int) (c:Int):(logR l vs c).length≤64:=by
 unfold logR
 split
 ·rw [List.length_reverse,ints_len]
  exact bitsL_len _ _
 ·simp
end Go.TV.F
namespace Go.TV.F
open Go.TV
theorem bits_mem {s n:Nat} {x:Int}:x ∈ ints (bitsL s n)↔∃ u:Nat,x=u∧u < n∧s.testBit u=true:=by
 simp only [ints,bitsL,List.mem_map,List.mem_filter,List.mem_range]
 constructor
 ·rintro ⟨u,⟨h1,h2⟩,h3⟩
  exact ⟨u,h3.symm,h1,h2⟩
 ·rintro ⟨u,h1,h2,h3⟩
  exact ⟨u,⟨h2,h3⟩,h1.symm⟩
theorem filt_loop {α ρ:Type} {body:Int×List Int→Option ((Int×List Int)⊕ρ)} (l:List α) (p:α→Bool) (f:α→Int) (fin:List Int→ρ)
  (hs:∀ (k:Nat) (x:α) (out:List Int),l[k]? = some x→k < l.length→out.length≤k→body ((k:Int),out)=some (.inl (((k+1:Nat):Int),if p x=true then out++[f x] else out)))
  (he:∀ out,body ((l.length:Int),out)=some (.inr (fin out))):zW body (0,[])=some (fin ((l.filter p).map f)):=by
 have key:∀ (m pre:List α) (out:List Int),l=pre++m→out.length≤pre.length→zW body ((pre.length:Int),out)=some (fin (out++(m.filter p).map f)):=by
  intro m
  induction m with
  | nil =>
   intro pre out hl _
   rw [List.append_nil] at hl
   subst hl
   rw [qX,he]
   simp
  | cons x m ih =>
   intro pre out hl ho
   rw [qX,hs pre.length x out (by rw [hl]; simp) (by rw [hl]; simp) ho]
   have hl2:l=(pre++[x])++m:=by rw [hl]; simp
   have:=ih (pre++[x]) (if p x=true then out++[f x] else out) hl2 (by split <;> simp <;> omega)
   rw [List.length_append] at this
   refine this.trans ?_
   cases q:p x <;> simp [q]
 exact (key l [] [] rfl (by simp)).trans (by simp)
theorem or_loop {α:Type} {body:Bool×Int→Option ((Bool×Int)⊕Bool)} (l:List α) (f:α→Bool) (a0:Bool)
  (hs:∀ (k:Nat) (x:α) (acc:Bool),l[k]? = some x→k < l.length→body (acc,(k:Int))=some (.inl (acc || f x,((k+1:Nat):Int))))
  (he:∀ acc,body (acc,(l.length:Int))=some (.inr acc)):zW body (a0,0)=some (a0 || l.any f):=by
 have key:∀ (m pre:List α) (acc:Bool),l=pre++m→zW body (acc,(pre.length:Int))=some (acc || m.any f):=by
  intro m
  induction m with
  | nil =>
   intro pre acc hl
   rw [List.append_nil] at hl
   subst hl
   rw [qX,he]
   simp
  | cons x m ih =>
   intro pre acc hl
   rw [qX,hs pre.length x acc (by rw [hl]; simp) (by rw [hl]; simp)]
   have:=ih (pre++[x]) (acc || f x) (by rw [hl]; simp)
   rw [List.length_append] at this
   refine this.trans ?_
   simp [Bool.or_assoc]
 exact key l [] a0 rfl
theorem idS_eq {l:List T_impl_Name} (hl:l.length≤1000000000) (id:Int):spec_l13Id l id=some (idN l id):=by
 unfold spec_l13Id idN
 rw [fidx_loop l (fun n=>n.Id == id) (fun k x hx hk=>by
  unfold spec_l13Id_l1
  rw [ifT (by simpa using hk),zQ,hx]
  simp only [Option.bind_some,wkS k (by omega)]
  split <;> rfl) (by
  unfold spec_l13Id_l1
  rw [ifF (by simp)])]
 split
 ·rename_i h
  rw [h]
  rfl
 ·rfl
def pathN (l:List T_impl_Name) (p:ByteArray):Int:=fidx (fun n=>n.Path.toList == p.toList) l
theorem pAtI_eq {l:List T_impl_Name} (hl:l.length≤1000000000) (p:ByteArray):impl_pathAt l p=some (pathN l p):=by
 unfold impl_pathAt qW pathN
 rw [fidx_loop l (fun n=>n.Path.toList == p.toList) (fun k x hx hk=>by
  unfold qQ impl_pathAt_c1
  rw [ifT (by simpa using hk),zQ,hx]
  simp only [Option.bind_some,wkS k (by omega)]
  split <;> rfl) (by
  unfold qQ
  rw [ifF (by simp)])]
 split
 ·rename_i h
  rw [h]
  rfl
 ·rfl
theorem pAtS_eq {l:List T_impl_Name} (hl:l.length≤1000000000) (p:ByteArray):spec_l13Path l p=some (pathN l p):=by
 unfold spec_l13Path pathN
 rw [fidx_loop l (fun n=>n.Path.toList == p.toList) (fun k x hx hk=>by
  unfold spec_l13Path_l1
  rw [ifT (by simpa using hk),zQ,hx]
  simp only [Option.bind_some,wkS k (by omega)]
  split <;> rfl) (by
  unfold spec_l13Path_l1
  rw [ifF (by simp)])]
 split
 ·rename_i h
  rw [h]
  rfl
 ·rfl
theorem idN_in {l:List T_impl_Name} {id:Int} (h:¬idN l id < 0):0≤idN l id∧(idN l id).toNat < l.length:=by
 have:=fidx_lt (fun n:T_impl_Name=>n.Id == id) l
 unfold idN at *
 omega
theorem pathN_in {l:List T_impl_Name} {p:ByteArray} (h:¬pathN l p < 0):0≤pathN l p∧(pathN l p).toNat < l.length:=by
 have:=fidx_lt (fun n:T_impl_Name=>n.Path.toList == p.toList) l
 unfold pathN at *
 omega
theorem geti_D {α:Type} {l:List α} {i:Int} {d:α} (h0:0≤i) (h1:i.toNat < l.length):zX l i=some (l.getD i.toNat d):=by
 obtain ⟨n,rfl⟩:=Int.eq_ofNat_of_zero_le h0
 rw [zQ]
 simp only [Int.toNat_natCast] at h1 ⊢
 rw [List.getElem?_eq_getElem h1,getD_in h1]
def nmEq (x y:T_impl_Name):Bool:=(x.Path.toList == y.Path.toList) && ((x.Id == y.Id) && (x.Version == y.Version))
def unlikeB (a b:List T_impl_Name) (id:Int):Bool:=
 if (decide (idN a id < 0) || decide (idN b id < 0))=true then (decide (idN a id≥0) || decide (idN b id≥0)) else !(nmEq (a.getD (idN a id).toNat bN) (b.getD (idN b id).toNat bN))
theorem unlikeI {a b:T_impl_Commit} (ha:a.Names.length≤1000000000) (hb:b.Names.length≤1000000000) (id:Int):impl_unlike a b id=some (unlikeB a.Names b.Names id):=by
 unfold impl_unlike unlikeB
 rw [idAt_eq ha,Option.bind_some,idAt_eq hb]
 simp only [Option.bind_some,orO]
 cases q:(decide (idN a.Names id < 0) || decide (idN b.Names id < 0)) with
 | true=>rfl
 | false =>
  simp only [Bool.or_eq_false_iff,decide_eq_false_iff_not] at q
  obtain ⟨g1,g2⟩:=idN_in q.1
  obtain ⟨g3,g4⟩:=idN_in q.2
  rw [ifF rfl,geti_D (d:=bN) g1 g2,Option.bind_some,geti_D (d:=bN) g3 g4,Option.bind_some]
  rfl
theorem unlikeS {a b:List T_impl_Name} (ha:a.length≤1000000000) (hb:b.length≤1000000000) (id:Int):spec_l14Differs a b id=some (unlikeB a b id):=by
 unfold spec_l14Differs unlikeB
 rw [idS_eq ha,Option.bind_some,idS_eq hb]
 simp only [Option.bind_some,orO]
 cases q:(decide (idN a id < 0) || decide (idN b id < 0)) with
 | true=>rfl
 | false =>
  simp only [Bool.or_eq_false_iff,decide_eq_false_iff_not] at q
  obtain ⟨g1,g2⟩:=idN_in q.1
  obtain ⟨g3,g4⟩:=idN_in q.2
  rw [ifF rfl,geti_D (d:=bN) g1 g2,Option.bind_some,geti_D (d:=bN) g3 g4,Option.bind_some]
  rfl
def bC:T_impl_Commit:=⟨[],ByteArray.mk #[],[]⟩
def tB (l:List T_impl_Commit) (c:T_impl_Commit) (id:Nat):Bool:=
 (((c.Parents.length:Int) == 0) && decide (idN c.Names id≥0)) || c.Parents.any fun p=>unlikeB c.Names (l.getD p.toNat bC).Names id
def touchR (l:List T_impl_Commit) (c:T_impl_Commit):List Int:=((List.range 12).filter (tB l c)).map fun x:Nat=>(x:Int)
structure CsR (l:List T_impl_Commit):Prop where
 n:∀ c ∈ l,c.Names.length≤12
 p:∀ (k:Nat) (h:k < l.length),∀ x ∈ l[k].Parents,0≤x∧x.toNat < l.length
 q:∀ (k:Nat) (h:k < l.length),l[k].Parents.length≤4
theorem csR_of {l:List T_impl_Commit} {vs:List Int} (h:commitsB l vs=true):CsR l:=by
 unfold commitsB at h
 simp only [Bool.and_eq_true,List.all_eq_true,decide_eq_true_eq] at h
 obtain ⟨⟨⟨h1,hg⟩,_⟩,hc⟩:=h
 have hlen:(graphC l).length=l.length:=by unfold graphC; simp
 have hget:∀ (k:Nat) (h:k < l.length),(graphC l)[k]'(by omega)=l[k].Parents:=fun k h=>by simp only [graphC,List.getElem_map]
 refine ⟨fun c hc'=>?_,fun k hk x hx=>?_,fun k hk=>?_⟩
 ·have:=hc c hc'
  unfold commitB at this
  simp only [Bool.and_eq_true] at this
  exact namesB_len this.1.2
 ·have:=gOk_mem hg (v:=k) (by omega) (x:=x) (by rw [hget k hk]; exact hx)
  omega
 ·have:=(gOk_at hg (v:=k) (by omega)).1
  rw [hget k hk] at this
  exact this
theorem touchI {l:List T_impl_Commit} (h:CsR l) {k:Nat} (hk:k < l.length):impl_touched l k=some (touchR l l[k]):=by
 have hn:=h.n l[k] (List.getElem_mem hk)
 have hq:=h.q k hk
 unfold impl_touched touchR
 rw [filt_loop (body:=fun (s':Int×(List Int))=>impl_touched_l1 l k s'.1 s'.2) (List.range 12) (tB l l[k]) (fun x:Nat=>(x:Int)) id (fun id x out hx hk' ho=>by
  have:=range_get hx
  subst this
  rw [List.length_range] at hk'
  simp only [impl_touched_l1]
  rw [ifT (by simp; omega),zQ,List.getElem?_eq_getElem hk]
  simp only [Option.bind_some]
  rw [idAt_eq (by omega)]
  simp only [Option.bind_some,andO]
  rw [or_loop (body:=fun (s':Bool×Int)=>impl_touched_l2 l k x l[k] s'.1 s'.2) l[k].Parents (fun p=>unlikeB l[k].Names (l.getD p.toNat bC).Names x) _ (fun j p acc hj hjl=>by
   obtain ⟨p0,p1⟩:=h.p k hk p (List.mem_of_getElem? hj)
   have hnp:=h.n (l.getD p.toNat bC) (by rw [getD_in p1]; exact List.getElem_mem p1)
   simp only [impl_touched_l2]
   rw [ifT (by simpa using hjl),zQ l[k].Parents,hj,Option.bind_some,zQ,List.getElem?_eq_getElem hk,Option.bind_some,geti_D (d:=bC) p0 p1,Option.bind_some,unlikeI (by simp only; omega) (by simp only; omega)]
   simp only [Option.bind_some,orO,wkS j (show j < 1000000000 by omega)]) (fun acc=>by
   simp only [impl_touched_l2]
   rw [ifF (by simp)]),Option.bind_some]
  unfold impl_touched_j3 impl_touched_j2
  rw [wkS x (by omega),appn_in (by simp; omega)]
  show (if tB l l[k] x=true then _ else _)=_
  cases tB l l[k] x <;> rfl) (fun out=>by
  simp only [impl_touched_l1,List.length_range]
  rw [ifF (by simp)]
  rfl)]
 rfl
theorem touchS {l:List T_impl_Commit} (h:CsR l) {k:Nat} (hk:k < l.length):spec_l14Touched l k=some (touchR l l[k]):=by
 have hn:=h.n l[k] (List.getElem_mem hk)
 have hq:=h.q k hk
 unfold spec_l14Touched touchR
 rw [filt_loop (body:=fun (s':Int×(List Int))=>spec_l14Touched_l1 l k s'.1 s'.2) (List.range 12) (tB l l[k]) (fun x:Nat=>(x:Int)) id (fun id x out hx hk' ho=>by
  have:=range_get hx
  subst this
  rw [List.length_range] at hk'
  simp only [spec_l14Touched_l1]
  rw [ifT (by simp; omega),zQ,List.getElem?_eq_getElem hk]
  simp only [Option.bind_some]
  rw [idS_eq (by omega)]
  simp only [Option.bind_some,andO]
  rw [or_loop (body:=fun (s':Bool×Int)=>spec_l14Touched_l2 l k x s'.1 s'.2) l[k].Parents (fun p=>unlikeB l[k].Names (l.getD p.toNat bC).Names x) _ (fun j p acc hj hjl=>by
   obtain ⟨p0,p1⟩:=h.p k hk p (List.mem_of_getElem? hj)
   have hnp:=h.n (l.getD p.toNat bC) (by rw [getD_in p1]; exact List.getElem_mem p1)
   simp only [spec_l14Touched_l2]
   rw [zQ,List.getElem?_eq_getElem hk,Option.bind_some,ifT (by simpa using hjl),zQ,hj,Option.bind_some,geti_D (d:=bC) p0 p1,Option.bind_some,unlikeS (by omega) (by omega)]
   simp only [Option.bind_some,orO,wkS j (show j < 1000000000 by omega)]) (fun acc=>by
   simp only [spec_l14Touched_l2]
   rw [zQ,List.getElem?_eq_getElem hk,Option.bind_some,ifF (by simp)]),Option.bind_some]
  unfold spec_l14Touched_j3 spec_l14Touched_j2
  rw [wkS x (by omega),appn_in (by simp; omega)]
  show (if tB l l[k] x=true then _ else _)=_
  cases tB l l[k] x <;> rfl) (fun out=>by
  simp only [spec_l14Touched_l1,List.length_range]
  rw [ifF (by simp)]
  rfl)]
 rfl
theorem contains_eq {l:List Int} {v:Int} (hl:l.length≤1000000000):slices_Contains_int_int l v=some (l.contains v):=by
 unfold slices_Contains_int_int slices_Index_int_int
 rw [fidx_loop l (fun x=>v == x) (fun k x hx hk=>by
  unfold slices_Index_int_int_l1
  rw [ifT (by simpa using hk),zQ,hx]
  simp only [Option.bind_some,wkS k (by omega)]
  split <;> rfl) (by
  unfold slices_Index_int_int_l1
  rw [ifF (by simp)])]
 have h1:=fidx_none (fun x=>v == x) l
 have h2:=fidx_ge (fun x=>v == x) l
 by_cases q:fidx (fun x=>v == x) l = -1
 ·rw [if_pos q]
  have hc:l.contains v=false:=by
   rw [List.contains_eq_any_beq,List.any_eq_false]
   intro x hx
   have:=h1.1 q x hx
   simpa using this
  rw [hc]
  rfl
 ·rw [if_neg q]
  have hc:l.contains v=true:=by
   cases e:l.contains v with
   | true=>rfl
   | false =>
    rw [List.contains_eq_any_beq,List.any_eq_false] at e
    exact absurd (h1.2 fun x hx=>by simpa using e x hx) q
  rw [hc]
  simp only [Option.bind_some]
  congr 1
  exact decide_eq_true (by omega)
def findR (s:T_impl_Store) (c:Int) (path:ByteArray):T_impl_Name×Int:=
 if storeB s=true then
  if (decide (0≤c) && decide (c < (s.Commits.length:Int)))=true then
   if pathN (s.Commits.getD c.toNat bC).Names path < 0 then (bN,3) else ((s.Commits.getD c.toNat bC).Names.getD (pathN (s.Commits.getD c.toNat bC).Names path).toNat bN,0)
  else (bN,2)
 else (bN,1)
theorem storeB_cs {s:T_impl_Store} (h:storeB s=true):CsR s.Commits∧commitsB s.Commits (sizesF s)=true:=by
 unfold storeB at h
 simp only [Bool.and_eq_true] at h
 exact ⟨csR_of h.2,h.2⟩
theorem findI {s:T_impl_Store} (hs:StSm s) (c:Int) (path:ByteArray):impl_nameAt s c path=some (findR s c path):=by
 have hc:=hs.c
 unfold impl_nameAt impl_NamesAt findR
 rw [show T_impl_Store.mk s.Commits s.Files=s from rfl,storeI_eq hs,Option.bind_some]
 cases q:storeB s with
 | false=>rfl
 | true =>
  rw [ifF (by rfl),isPlace_eq (by omega) (by omega),Option.bind_some]
  cases q2:(decide (0≤c) && decide (c < (s.Commits.length:Int))) with
  | false=>rfl
  | true =>
   simp only [Bool.and_eq_true,decide_eq_true_eq] at q2
   have hk:c.toNat < s.Commits.length:=by omega
   have hn:=(storeB_cs q).1.n (s.Commits.getD c.toNat bC) (by rw [getD_in hk]; exact List.getElem_mem hk)
   rw [ifF (by rfl),geti_D (d:=bC) q2.1 hk,Option.bind_some]
   unfold jL
   rw [appn_in (by rw [List.length_nil]; omega)]
   simp only [Option.bind_some,List.nil_append,if_true]
   rw [ifF (by rfl),pAtI_eq (by omega),Option.bind_some]
   by_cases q3:pathN (s.Commits.getD c.toNat bC).Names path < 0
   ·rw [ifT (decide_eq_true q3),if_pos q3]
    rfl
   ·obtain ⟨g1,g2⟩:=pathN_in q3
    rw [ifF (decide_eq_false q3),geti_D (d:=bN) g1 g2,Option.bind_some,if_neg q3]
theorem findS {s:T_impl_Store} (hs:StSm s) (c:Int) (path:ByteArray):spec_l15Find s c path=some (findR s c path):=by
 have hc:=hs.c
 unfold spec_l15Find spec_NamesAt spec_l15Has findR
 rw [show T_impl_Store.mk s.Commits s.Files=s from rfl,storeS_eq hs,Option.bind_some]
 cases q:storeB s with
 | false=>rfl
 | true =>
  rw [ifF (by rfl),wk64 (by omega) (by omega),l01In_eq]
  simp only [Option.bind_some]
  have e:(decide (0≤c) && decide (c≤(s.Commits.length:Int) - 1))=(decide (0≤c) && decide (c < (s.Commits.length:Int))):=by
   congr 1
   rw [decide_eq_decide]
   omega
  rw [e]
  cases q2:(decide (0≤c) && decide (c < (s.Commits.length:Int))) with
  | false=>rfl
  | true =>
   simp only [Bool.and_eq_true,decide_eq_true_eq] at q2
   have hk:c.toNat < s.Commits.length:=by omega
   have hn:=(storeB_cs q).1.n (s.Commits.getD c.toNat bC) (by rw [getD_in hk]; exact List.getElem_mem hk)
   rw [ifF (by rfl),geti_D (d:=bC) q2.1 hk,Option.bind_some,appn_in (by rw [List.length_nil]; omega)]
   simp only [Option.bind_some,List.nil_append,if_true]
   rw [ifF (by rfl),pAtS_eq (by omega),Option.bind_some]
   by_cases q3:pathN (s.Commits.getD c.toNat bC).Names path < 0
   ·rw [ifT (decide_eq_true q3),if_pos q3]
    rfl
   ·obtain ⟨g1,g2⟩:=pathN_in q3
    rw [ifF (decide_eq_false q3),geti_D (d:=bN) g1 g2,Option.bind_some,if_neg q3]
theorem findR_in {s:T_impl_Store} {c:Int} {path:ByteArray} (h:(findR s c path).2=0):storeB s=true∧0≤c∧c < s.Commits.length:=by
 unfold findR at h
 split at h
 ·rename_i q
  split at h
  ·rename_i q2
   simp only [Bool.and_eq_true,decide_eq_true_eq] at q2
   exact ⟨q,q2⟩
  ·cases h
 ·cases h
def fileLogR (s:T_impl_Store) (path:ByteArray) (c:Int):List Int×Int:=
 if ((findR s c path).2 != 0)=true then ([],(findR s c path).2) else ((logR s.Commits (sizesF s) c).filter (fun x=>(touchR s.Commits (s.Commits.getD x.toNat bC)).contains (findR s c path).1.Id),0)
theorem logR_in {l:List T_impl_Commit} {vs:List Int} {c x:Int} (hx:x ∈ logR l vs c):0≤x∧x.toNat < l.length:=by
 unfold logR at hx
 split at hx
 ·rename_i q
  simp only [Bool.and_eq_true,decide_eq_true_eq] at q
  obtain ⟨⟨c0,c1⟩,q2⟩:=q
  have hg:gOk (graphC l)=true:=by
   unfold commitsB at q2
   simp only [Bool.and_eq_true] at q2
   exact q2.1.1.2
  have hlen:(graphC l).length=l.length:=by unfold graphC; simp
  rw [List.mem_reverse,bits_mem] at hx
  obtain ⟨u,rfl,hu,ht⟩:=hx
  have:=clo_le hg (v:=c.toNat) (by omega) ht
  omega
 ·cases hx
theorem touchR_len (l:List T_impl_Commit) (c:T_impl_Commit):(touchR l c).length≤12:=by
 unfold touchR
 rw [List.length_map]
 exact Nat.le_trans (List.length_filter_le _ _) (by simp)
theorem fileLogI {s:T_impl_Store} (hs:StSm s) (path:ByteArray) (c:Int):impl_FileLog s path c=some (fileLogR s path c):=by
 have hc:=hs.c
 have hf:=hs.f
 unfold impl_FileLog fileLogR
 rw [show T_impl_Store.mk s.Commits s.Files=s from rfl,findI hs,Option.bind_some]
 cases q:((findR s c path).2 != 0) with
 | true=>rfl
 | false =>
  obtain ⟨h1,h2,h3⟩:=findR_in (s:=s) (c:=c) (path:=path) (by simpa using q)
  have hR:=(storeB_cs h1).1
  rw [ifF (by rfl),graphsI_eq hs,Option.bind_some,sizesOf_eq (by simpa using hf),Option.bind_some]
  have e:(s.Files.map fun w=>w.Parents).map (fun x=>(x.length:Int))=sizesF s:=by unfold sizesF; rw [List.map_map]; rfl
  have hll:=logR_len s.Commits (sizesF s) c
  rw [e,logI_eq hs.c hs.cs,Option.bind_some]
  rw [filt_loop (body:=fun (s':Int×(List Int))=>impl_FileLog_l1 s (findR s c path) (logR s.Commits (sizesF s) c) s'.1 s'.2) (logR s.Commits (sizesF s) c) (fun x=>(touchR s.Commits (s.Commits.getD x.toNat bC)).contains (findR s c path).1.Id) (fun x=>x) id (fun k x out hx hk ho=>by
   obtain ⟨x0,x1⟩:=logR_in (List.mem_of_getElem? hx)
   have:=touchR_len s.Commits (s.Commits.getD x.toNat bC)
   have ht:impl_touched s.Commits x=some (touchR s.Commits (s.Commits.getD x.toNat bC)):=by
    have:=touchI hR x1
    rw [Int.toNat_of_nonneg x0] at this
    rw [this,getD_in x1]
   simp only [impl_FileLog_l1]
   rw [ifT (by simpa using hk),zQ,hx,Option.bind_some,ht,Option.bind_some,contains_eq (by omega),Option.bind_some,appn_in (by simp; omega),wkS k (by omega)]
   cases (touchR s.Commits (s.Commits.getD x.toNat bC)).contains (findR s c path).1.Id <;> rfl) (fun out=>by
   simp only [impl_FileLog_l1]
   rw [ifF (by simp)]
   rfl)]
  simp [impl_FileLog_j1]
theorem fileLogS {s:T_impl_Store} (hs:StSm s) (path:ByteArray) (c:Int):spec_FileLog s path c=some (fileLogR s path c):=by
 have hc:=hs.c
 have hf:=hs.f
 unfold spec_FileLog fileLogR
 rw [show T_impl_Store.mk s.Commits s.Files=s from rfl,findS hs,Option.bind_some]
 cases q:((findR s c path).2 != 0) with
 | true=>rfl
 | false =>
  obtain ⟨h1,h2,h3⟩:=findR_in (s:=s) (c:=c) (path:=path) (by simpa using q)
  have hR:=(storeB_cs h1).1
  rw [ifF (by rfl),versionsS_eq hs,Option.bind_some]
  have hll:=logR_len s.Commits (sizesF s) c
  rw [logS_eq hs.c hs.cs,Option.bind_some]
  rw [filt_loop (body:=fun (s':Int×(List Int))=>spec_FileLog_l1 s (findR s c path) (logR s.Commits (sizesF s) c) s'.1 s'.2) (logR s.Commits (sizesF s) c) (fun x=>(touchR s.Commits (s.Commits.getD x.toNat bC)).contains (findR s c path).1.Id) (fun x=>x) id (fun k x out hx hk ho=>by
   obtain ⟨x0,x1⟩:=logR_in (List.mem_of_getElem? hx)
   have:=touchR_len s.Commits (s.Commits.getD x.toNat bC)
   have ht:spec_l14Touched s.Commits x=some (touchR s.Commits (s.Commits.getD x.toNat bC)):=by
    have:=touchS hR x1
    rw [Int.toNat_of_nonneg x0] at this
    rw [this,getD_in x1]
   simp only [spec_FileLog_l1]
   rw [ifT (by simpa using hk),zQ,hx,Option.bind_some,ht,Option.bind_some,l07In_eq (by omega),Option.bind_some,Option.bind_some,appn_in (by simp; omega),wkS k (by omega)]
   cases (touchR s.Commits (s.Commits.getD x.toNat bC)).contains (findR s c path).1.Id <;> rfl) (fun out=>by
   simp only [spec_FileLog_l1]
   rw [ifF (by simp)]
   rfl)]
  simp [spec_FileLog_j1]
theorem fileLogR_len (s:T_impl_Store) (path:ByteArray) (c:Int):(fileLogR s path c).1.length≤64:=by
 unfold fileLogR
 split
 ·exact Nat.zero_le _
 ·exact Nat.le_trans (List.length_filter_le _ _) (logR_len _ _ _)
end Go.TV.F
namespace Go.TV.F
open Go.TV
theorem markText_total {k:Nat} (h:k≤1000000000):∃ t,laws_markText (k:Int)=some t:=by
 unfold laws_markText
 by_cases q:k=0
 ·subst q
  exact ⟨_,rfl⟩
 rw [ifF (by simp; omega)]
 obtain ⟨r,h1,h2⟩:=loopK1 (f:=fun (s':Int×ByteArray)=>laws_markText_l1 s'.1 s'.2) (fun s=>∃ n:Nat,s.1=n∧n+s.2.size≤1000000000) (fun s=>s.1.toNat) (fun r=>r.size≤1000000000)
  (s:=((k:Int),ByteArray.mk #[])) ⟨k,rfl,h⟩ (fun s hs=>by
  obtain ⟨n,h1,h2⟩:=hs
  obtain ⟨x,out⟩:=s
  simp only at h1 h2 ⊢
  subst h1
  unfold laws_markText_l1
  by_cases q:n=0
  ·rw [ifF (by simp; omega)]
   exact .inr ⟨_,rfl,by omega⟩
  ·rw [ifT (by simp; omega)]
   generalize hz:mkS [wk .u8 (wk .i64 (48+((n:Int)).tmod 10))]=z
   have hzs:z.size=1:=by rw [← hz,mkSK]; rfl
   rw [sapp_in (by omega),Option.bind_some,show (10:Int)=((10:Nat):Int) from rfl,tdivK,wk64 (by omega) (by omega)]
   refine .inl ⟨_,rfl,⟨n / 10,rfl,?_⟩,?_⟩
   ·simp only [ByteArray.size_append]
    omega
   ·simp only
    omega)
 rw [h1,Option.bind_some]
 unfold laws_markText_j1
 rw [sapp_in (by have:(ByteArray.mk #[109]).size=1:=rfl; omega)]
 exact ⟨_,rfl⟩
noncomputable def mT (k:Int):ByteArray:=(laws_markText k).getD (ByteArray.mk #[])
theorem markText_eq {k:Int} (h0:0≤k) (h:k≤1000000000):laws_markText k=some (mT k):=by
 obtain ⟨n,rfl⟩:∃ n:Nat,k=n:=⟨k.toNat,by omega⟩
 obtain ⟨t,ht⟩:=markText_total (k:=n) (by omega)
 unfold mT
 rw [ht]
 rfl
def w_IntS (a:List Int):Nat:=a.length
def ok_IntS (a:List Int):Prop:=a.length≤LB
def sm_IntS (a:List Int):Prop:=a.length * 8≤140737488351232∧∀ x ∈ a,(Lit.int .i64 x).wf=true
theorem ok_of_IntS {a:List Int} (h:sm_IntS a):ok_IntS a:=by have:=h.1; unfold ok_IntS LB; omega
def c_IntS (a:List Int):List Int:=a
theorem sz_IntS {a:List Int} {s:Int} (h:ok_IntS a) (h0:0≤s) (h1:s≤1048576):laws_szIntS a s=some (if (w_IntS a:Int)≤s then s - w_IntS a else -1):=by
 have hl:a.length≤1000000000000000:=h
 unfold laws_szIntS w_IntS
 rw [wk64 (x:=s - (a.length:Int)) (by omega) (by omega)]
 by_cases q:s - (a.length:Int) < 0
 ·rw [ifT (by simpa using q),if_neg (by omega)]
 ·rw [ifF (by simpa using q),if_pos (by omega)]
theorem to_IntS {a:List Int} (h:w_IntS a≤1048576):laws_toIntS a=some (c_IntS a):=by
 have hl:a.length≤1048576:=by unfold w_IntS at h; omega
 unfold laws_toIntS
 rw [mkl_in (by omega) (by omega),Option.bind_some,Int.toNat_natCast]
 have:=to_loop (body:=fun (s':Int×(List Int))=>laws_toIntS_l1 a s'.1 s'.2) a (fun x=>x) 0 (fun i x out hi hl2=>by
  have hlt:=(List.getElem?_eq_some_iff.1 hi).1
  show laws_toIntS_l1 a i out=_
  unfold laws_toIntS_l1
  rw [ifT (by simpa using hlt),zQ,hi,Option.bind_some]
  rw [zQ,List.getElem?_eq_getElem (by omega),Option.bind_some,wk64 (by omega) (by omega),Int.toNat_natCast]
  rfl) (fun out hl2=>by
  show laws_toIntS_l1 a a.length out=_
  unfold laws_toIntS_l1
  rw [ifF (by simp)])
 rw [this]
 show some (a.map (fun x=>x))=some a
 rw [List.map_id']
def w_Name (a:T_laws_Name):Nat:=a.Path.size
def ok_Name (a:T_laws_Name):Prop:=a.Path.size≤LB
def sm_Name (a:T_laws_Name):Prop:=a.Path.size≤140737488351232∧(Lit.int .i64 a.Id).wf=true∧(Lit.int .i64 a.Version).wf=true
theorem ok_of_Name {a:T_laws_Name} (h:sm_Name a):ok_Name a:=Nat.le_trans h.1 (by decide)
def c_Name (a:T_laws_Name):T_impl_Name:=⟨a.Path,a.Id,a.Version⟩
theorem sz_Name {a:T_laws_Name} {s:Int} (h:ok_Name a) (h0:0≤s) (h1:s≤1048576):laws_szName a s=some (if (w_Name a:Int)≤s then s - w_Name a else -1):=by
 unfold ok_Name at h
 have o0:=h
 have p0:a.Path.size≤1000000000000000:=o0
 unfold laws_szName w_Name
 rw [wk64 (x:=s - (a.Path.size:Int)) (by omega) (by omega)]
 by_cases q0:s - (a.Path.size:Int) < 0
 ·rw [ifT (by simpa using q0),if_neg (by omega)]
 rw [ifF (by simpa using q0)]
 exact congrArg some (by split <;> omega)
theorem to_Name {a:T_laws_Name} (h:w_Name a≤1048576):laws_toName a=some (c_Name a):=by
 unfold w_Name at h
 unfold laws_toName
 rfl
def w_NameS (a:List T_laws_Name):Nat:=a.length+sumOf w_Name a
def ok_NameS (a:List T_laws_Name):Prop:=a.length≤LB∧∀ x ∈ a,ok_Name x
def sm_NameS (a:List T_laws_Name):Prop:=a.length * 32≤140737488351232∧∀ x ∈ a,sm_Name x
theorem ok_of_NameS {a:List T_laws_Name} (h:sm_NameS a):ok_NameS a:=⟨by have:=h.1; unfold LB; omega,fun x hx=>ok_of_Name (h.2 x hx)⟩
def c_NameS (a:List T_laws_Name):List T_impl_Name:=a.map c_Name
theorem sz_NameS {a:List T_laws_Name} {s:Int} (h:ok_NameS a) (h0:0≤s) (h1:s≤1048576):laws_szNameS a s=some (if (w_NameS a:Int)≤s then s - w_NameS a else -1):=by
 have hl:a.length≤1000000000000000:=h.1
 unfold laws_szNameS w_NameS
 rw [wk64 (x:=s - (a.length:Int)) (by omega) (by omega)]
 by_cases q:s - (a.length:Int) < 0
 ·rw [ifT (by simpa using q),if_neg (by omega)]
 ·rw [ifF (by simpa using q)]
  have:=sz_loop (body:=fun (s':Int×Int)=>laws_szNameS_l1 a s'.1 s'.2) w_Name a (s - a.length) (by omega) (fun t i x hi h2 h3=>by
   have hlt:=(List.getElem?_eq_some_iff.1 hi).1
   have hxs:=h.2 x (List.mem_of_getElem? hi)
   show laws_szNameS_l1 a t i=_
   unfold laws_szNameS_l1
   rw [ifT (by simpa using hlt),zQ,hi,Option.bind_some,sz_Name hxs h2 (by omega),Option.bind_some]
   by_cases q2:(w_Name x:Int)≤t
   ·rw [if_pos q2,ifF (by simp; omega),if_pos q2,wk64 (by omega) (by omega)]
    rfl
   ·rw [if_neg q2,ifT (by simp),if_neg q2]) (fun t=>by
   show laws_szNameS_l1 a t a.length=_
   unfold laws_szNameS_l1
   rw [ifF (by simp)])
  rw [this,Option.bind_some]
  by_cases q2:(sumOf w_Name a:Int)≤s - a.length
  ·rw [if_pos q2,if_pos (by omega)]
   simp only [laws_szNameS_j1]
   congr 1
   omega
  ·rw [if_neg q2,if_neg (by omega)]
theorem to_NameS {a:List T_laws_Name} (h:w_NameS a≤1048576):laws_toNameS a=some (c_NameS a):=by
 have hl:a.length≤1048576:=by unfold w_NameS at h; omega
 unfold laws_toNameS
 rw [mkl_in (by omega) (by omega),Option.bind_some,Int.toNat_natCast]
 have:=to_loop (body:=fun (s':Int×(List T_impl_Name))=>laws_toNameS_l1 a s'.1 s'.2) a (fun x=>c_Name x) (T_impl_Name.mk (ByteArray.mk #[]) 0 0) (fun i x out hi hl2=>by
  have hlt:=(List.getElem?_eq_some_iff.1 hi).1
  have hw:w_Name x≤1048576:=by have:=sumOf_mem (w:=w_Name) (List.mem_of_getElem? hi); unfold w_NameS at h; omega
  show laws_toNameS_l1 a i out=_
  unfold laws_toNameS_l1
  rw [ifT (by simpa using hlt),zQ,hi,Option.bind_some]
  rw [to_Name hw,Option.bind_some]
  rw [zQ,List.getElem?_eq_getElem (by omega),Option.bind_some,wk64 (by omega) (by omega),Int.toNat_natCast]
  rfl) (fun out hl2=>by
  show laws_toNameS_l1 a a.length out=_
  unfold laws_toNameS_l1
  rw [ifF (by simp)])
 rw [this]
 show some (a.map (fun x=>c_Name x))=some (c_NameS a)
 rfl
def w_Commit (a:T_laws_Commit):Nat:=w_IntS a.Parents+a.Note.size+w_NameS a.Names
def ok_Commit (a:T_laws_Commit):Prop:=ok_IntS a.Parents∧a.Note.size≤LB∧ok_NameS a.Names
def sm_Commit (a:T_laws_Commit):Prop:=sm_IntS a.Parents∧a.Note.size≤140737488351232∧sm_NameS a.Names
theorem ok_of_Commit {a:T_laws_Commit} (h:sm_Commit a):ok_Commit a:=⟨ok_of_IntS h.1,Nat.le_trans h.2.1 (by decide),ok_of_NameS h.2.2⟩
def c_Commit (a:T_laws_Commit):T_impl_Commit:=⟨a.Parents,a.Note,c_NameS a.Names⟩
theorem sz_Commit {a:T_laws_Commit} {s:Int} (h:ok_Commit a) (h0:0≤s) (h1:s≤1048576):laws_szCommit a s=some (if (w_Commit a:Int)≤s then s - w_Commit a else -1):=by
 unfold ok_Commit at h
 obtain ⟨o0,o1,o2⟩:=h
 have p1:a.Note.size≤1000000000000000:=o1
 unfold laws_szCommit w_Commit
 rw [sz_IntS o0 (by omega) (by omega),Option.bind_some]
 by_cases q0:(w_IntS a.Parents:Int)≤s
 case neg=>rw [if_neg q0,ifT (by simp),if_neg (by omega)]
 rw [if_pos q0,ifF (by simp; omega)]
 rw [wk64 (x:=s - (w_IntS a.Parents:Int) - (a.Note.size:Int)) (by omega) (by omega)]
 by_cases q1:s - (w_IntS a.Parents:Int) - (a.Note.size:Int) < 0
 ·rw [ifT (by simpa using q1),if_neg (by omega)]
 rw [ifF (by simpa using q1)]
 rw [sz_NameS o2 (by omega) (by omega),Option.bind_some]
 by_cases q2:(w_NameS a.Names:Int)≤s - (w_IntS a.Parents:Int) - (a.Note.size:Int)
 case neg=>rw [if_neg q2,ifT (by simp),if_neg (by omega)]
 rw [if_pos q2,ifF (by simp; omega)]
 exact congrArg some (by split <;> omega)
theorem to_Commit {a:T_laws_Commit} (h:w_Commit a≤1048576):laws_toCommit a=some (c_Commit a):=by
 unfold w_Commit at h
 unfold laws_toCommit
 rw [to_IntS (by omega),Option.bind_some]
 rw [to_NameS (by omega),Option.bind_some]
 rfl
def w_CommitS (a:List T_laws_Commit):Nat:=a.length+sumOf w_Commit a
def ok_CommitS (a:List T_laws_Commit):Prop:=a.length≤LB∧∀ x ∈ a,ok_Commit x
def sm_CommitS (a:List T_laws_Commit):Prop:=a.length * 64≤140737488351232∧∀ x ∈ a,sm_Commit x
theorem ok_of_CommitS {a:List T_laws_Commit} (h:sm_CommitS a):ok_CommitS a:=⟨by have:=h.1; unfold LB; omega,fun x hx=>ok_of_Commit (h.2 x hx)⟩
def c_CommitS (a:List T_laws_Commit):List T_impl_Commit:=a.map c_Commit
theorem sz_CommitS {a:List T_laws_Commit} {s:Int} (h:ok_CommitS a) (h0:0≤s) (h1:s≤1048576):laws_szCommitS a s=some (if (w_CommitS a:Int)≤s then s - w_CommitS a else -1):=by
 have hl:a.length≤1000000000000000:=h.1
 unfold laws_szCommitS w_CommitS
 rw [wk64 (x:=s - (a.length:Int)) (by omega) (by omega)]
 by_cases q:s - (a.length:Int) < 0
 ·rw [ifT (by simpa using q),if_neg (by omega)]
 ·rw [ifF (by simpa using q)]
  have:=sz_loop (body:=fun (s':Int×Int)=>jP a s'.1 s'.2) w_Commit a (s - a.length) (by omega) (fun t i x hi h2 h3=>by
   have hlt:=(List.getElem?_eq_some_iff.1 hi).1
   have hxs:=h.2 x (List.mem_of_getElem? hi)
   show jP a t i=_
   unfold jP
   rw [ifT (by simpa using hlt),zQ,hi,Option.bind_some,sz_Commit hxs h2 (by omega),Option.bind_some]
   by_cases q2:(w_Commit x:Int)≤t
   ·rw [if_pos q2,ifF (by simp; omega),if_pos q2,wk64 (by omega) (by omega)]
    rfl
   ·rw [if_neg q2,ifT (by simp),if_neg q2]) (fun t=>by
   show jP a t a.length=_
   unfold jP
   rw [ifF (by simp)])
  rw [this,Option.bind_some]
  by_cases q2:(sumOf w_Commit a:Int)≤s - a.length
  ·rw [if_pos q2,if_pos (by omega)]
   simp only [laws_szCommitS_j1]
   congr 1
   omega
  ·rw [if_neg q2,if_neg (by omega)]
theorem to_CommitS {a:List T_laws_Commit} (h:w_CommitS a≤1048576):laws_toCommitS a=some (c_CommitS a):=by
 have hl:a.length≤1048576:=by unfold w_CommitS at h; omega
 unfold laws_toCommitS
 rw [mkl_in (by omega) (by omega),Option.bind_some,Int.toNat_natCast]
 have:=to_loop (body:=fun (s':Int×(List T_impl_Commit))=>jR a s'.1 s'.2) a (fun x=>c_Commit x) (T_impl_Commit.mk [] (ByteArray.mk #[]) []) (fun i x out hi hl2=>by
  have hlt:=(List.getElem?_eq_some_iff.1 hi).1
  have hw:w_Commit x≤1048576:=by have:=sumOf_mem (w:=w_Commit) (List.mem_of_getElem? hi); unfold w_CommitS at h; omega
  show jR a i out=_
  unfold jR
  rw [ifT (by simpa using hlt),zQ,hi,Option.bind_some]
  rw [to_Commit hw,Option.bind_some]
  rw [zQ,List.getElem?_eq_getElem (by omega),Option.bind_some,wk64 (by omega) (by omega),Int.toNat_natCast]
  rfl) (fun out hl2=>by
  show jR a a.length out=_
  unfold jR
  rw [ifF (by simp)])
 rw [this]
 show some (a.map (fun x=>c_Commit x))=some (c_CommitS a)
 rfl
def w_IntSS (a:List (List Int)):Nat:=a.length+sumOf w_IntS a
def ok_IntSS (a:List (List Int)):Prop:=a.length≤LB∧∀ x ∈ a,ok_IntS x
def sm_IntSS (a:List (List Int)):Prop:=a.length * 24≤140737488351232∧∀ x ∈ a,sm_IntS x
theorem ok_of_IntSS {a:List (List Int)} (h:sm_IntSS a):ok_IntSS a:=⟨by have:=h.1; unfold LB; omega,fun x hx=>ok_of_IntS (h.2 x hx)⟩
def c_IntSS (a:List (List Int)):List (List Int):=a
theorem sz_IntSS {a:List (List Int)} {s:Int} (h:ok_IntSS a) (h0:0≤s) (h1:s≤1048576):laws_szIntSS a s=some (if (w_IntSS a:Int)≤s then s - w_IntSS a else -1):=by
 have hl:a.length≤1000000000000000:=h.1
 unfold laws_szIntSS w_IntSS
 rw [wk64 (x:=s - (a.length:Int)) (by omega) (by omega)]
 by_cases q:s - (a.length:Int) < 0
 ·rw [ifT (by simpa using q),if_neg (by omega)]
 ·rw [ifF (by simpa using q)]
  have:=sz_loop (body:=fun (s':Int×Int)=>laws_szIntSS_l1 a s'.1 s'.2) w_IntS a (s - a.length) (by omega) (fun t i x hi h2 h3=>by
   have hlt:=(List.getElem?_eq_some_iff.1 hi).1
   have hxs:=h.2 x (List.mem_of_getElem? hi)
   show laws_szIntSS_l1 a t i=_
   unfold laws_szIntSS_l1
   rw [ifT (by simpa using hlt),zQ,hi,Option.bind_some,sz_IntS hxs h2 (by omega),Option.bind_some]
   by_cases q2:(w_IntS x:Int)≤t
   ·rw [if_pos q2,ifF (by simp; omega),if_pos q2,wk64 (by omega) (by omega)]
    rfl
   ·rw [if_neg q2,ifT (by simp),if_neg q2]) (fun t=>by
   show laws_szIntSS_l1 a t a.length=_
   unfold laws_szIntSS_l1
   rw [ifF (by simp)])
  rw [this,Option.bind_some]
  by_cases q2:(sumOf w_IntS a:Int)≤s - a.length
  ·rw [if_pos q2,if_pos (by omega)]
   simp only [laws_szIntSS_j1]
   congr 1
   omega
  ·rw [if_neg q2,if_neg (by omega)]
theorem to_IntSS {a:List (List Int)} (h:w_IntSS a≤1048576):laws_toIntSS a=some (c_IntSS a):=by
 have hl:a.length≤1048576:=by unfold w_IntSS at h; omega
 unfold laws_toIntSS
 rw [mkl_in (by omega) (by omega),Option.bind_some,Int.toNat_natCast]
 have:=to_loop (body:=fun (s':Int×(List (List Int)))=>laws_toIntSS_l1 a s'.1 s'.2) a (fun x=>c_IntS x) [] (fun i x out hi hl2=>by
  have hlt:=(List.getElem?_eq_some_iff.1 hi).1
  have hw:w_IntS x≤1048576:=by have:=sumOf_mem (w:=w_IntS) (List.mem_of_getElem? hi); unfold w_IntSS at h; omega
  show laws_toIntSS_l1 a i out=_
  unfold laws_toIntSS_l1
  rw [ifT (by simpa using hlt),zQ,hi,Option.bind_some]
  rw [to_IntS hw,Option.bind_some]
  rw [zQ,List.getElem?_eq_getElem (by omega),Option.bind_some,wk64 (by omega) (by omega),Int.toNat_natCast]
  rfl) (fun out hl2=>by
  show laws_toIntSS_l1 a a.length out=_
  unfold laws_toIntSS_l1
  rw [ifF (by simp)])
 rw [this]
 show some (a.map (fun x=>c_IntS x))=some (c_IntSS a)
 unfold c_IntSS; congr 1; exact (List.map_congr_left (fun x _=>rfl)).trans (List.map_id' a)
def w_Body (a:T_laws_Body):Nat:=a.Line.size+w_IntS a.Dels
def ok_Body (a:T_laws_Body):Prop:=a.Line.size≤LB∧ok_IntS a.Dels
def sm_Body (a:T_laws_Body):Prop:=a.Line.size≤140737488351232∧(Lit.int .i64 a.Ins).wf=true∧(Lit.int .i64 a.Ord).wf=true∧sm_IntS a.Dels
theorem ok_of_Body {a:T_laws_Body} (h:sm_Body a):ok_Body a:=⟨Nat.le_trans h.1 (by decide),ok_of_IntS h.2.2.2⟩
def c_Body (a:T_laws_Body):T_impl_Body:=⟨a.Line,a.Ins,a.Ord,a.Dels⟩
theorem sz_Body {a:T_laws_Body} {s:Int} (h:ok_Body a) (h0:0≤s) (h1:s≤1048576):laws_szBody a s=some (if (w_Body a:Int)≤s then s - w_Body a else -1):=by
 unfold ok_Body at h
 obtain ⟨o0,o1⟩:=h
 have p0:a.Line.size≤1000000000000000:=o0
 unfold laws_szBody w_Body
 rw [wk64 (x:=s - (a.Line.size:Int)) (by omega) (by omega)]
 by_cases q0:s - (a.Line.size:Int) < 0
 ·rw [ifT (by simpa using q0),if_neg (by omega)]
 rw [ifF (by simpa using q0)]
 rw [sz_IntS o1 (by omega) (by omega),Option.bind_some]
 by_cases q1:(w_IntS a.Dels:Int)≤s - (a.Line.size:Int)
 case neg=>rw [if_neg q1,ifT (by simp),if_neg (by omega)]
 rw [if_pos q1,ifF (by simp; omega)]
 exact congrArg some (by split <;> omega)
theorem to_Body {a:T_laws_Body} (h:w_Body a≤1048576):laws_toBody a=some (c_Body a):=by
 unfold w_Body at h
 unfold laws_toBody
 rw [to_IntS (by omega),Option.bind_some]
 rfl
def w_BodyS (a:List T_laws_Body):Nat:=a.length+sumOf w_Body a
def ok_BodyS (a:List T_laws_Body):Prop:=a.length≤LB∧∀ x ∈ a,ok_Body x
def sm_BodyS (a:List T_laws_Body):Prop:=a.length * 56≤140737488351232∧∀ x ∈ a,sm_Body x
theorem ok_of_BodyS {a:List T_laws_Body} (h:sm_BodyS a):ok_BodyS a:=⟨by have:=h.1; unfold LB; omega,fun x hx=>ok_of_Body (h.2 x hx)⟩
def c_BodyS (a:List T_laws_Body):List T_impl_Body:=a.map c_Body
theorem sz_BodyS {a:List T_laws_Body} {s:Int} (h:ok_BodyS a) (h0:0≤s) (h1:s≤1048576):laws_szBodyS a s=some (if (w_BodyS a:Int)≤s then s - w_BodyS a else -1):=by
 have hl:a.length≤1000000000000000:=h.1
 unfold laws_szBodyS w_BodyS
 rw [wk64 (x:=s - (a.length:Int)) (by omega) (by omega)]
 by_cases q:s - (a.length:Int) < 0
 ·rw [ifT (by simpa using q),if_neg (by omega)]
 ·rw [ifF (by simpa using q)]
  have:=sz_loop (body:=fun (s':Int×Int)=>laws_szBodyS_l1 a s'.1 s'.2) w_Body a (s - a.length) (by omega) (fun t i x hi h2 h3=>by
   have hlt:=(List.getElem?_eq_some_iff.1 hi).1
   have hxs:=h.2 x (List.mem_of_getElem? hi)
   show laws_szBodyS_l1 a t i=_
   unfold laws_szBodyS_l1
   rw [ifT (by simpa using hlt),zQ,hi,Option.bind_some,sz_Body hxs h2 (by omega),Option.bind_some]
   by_cases q2:(w_Body x:Int)≤t
   ·rw [if_pos q2,ifF (by simp; omega),if_pos q2,wk64 (by omega) (by omega)]
    rfl
   ·rw [if_neg q2,ifT (by simp),if_neg q2]) (fun t=>by
   show laws_szBodyS_l1 a t a.length=_
   unfold laws_szBodyS_l1
   rw [ifF (by simp)])
  rw [this,Option.bind_some]
  by_cases q2:(sumOf w_Body a:Int)≤s - a.length
  ·rw [if_pos q2,if_pos (by omega)]
   simp only [laws_szBodyS_j1]
   congr 1
   omega
  ·rw [if_neg q2,if_neg (by omega)]
theorem to_BodyS {a:List T_laws_Body} (h:w_BodyS a≤1048576):laws_toBodyS a=some (c_BodyS a):=by
 have hl:a.length≤1048576:=by unfold w_BodyS at h; omega
 unfold laws_toBodyS
 rw [mkl_in (by omega) (by omega),Option.bind_some,Int.toNat_natCast]
 have:=to_loop (body:=fun (s':Int×(List T_impl_Body))=>laws_toBodyS_l1 a s'.1 s'.2) a (fun x=>c_Body x) (T_impl_Body.mk (ByteArray.mk #[]) 0 0 []) (fun i x out hi hl2=>by
  have hlt:=(List.getElem?_eq_some_iff.1 hi).1
  have hw:w_Body x≤1048576:=by have:=sumOf_mem (w:=w_Body) (List.mem_of_getElem? hi); unfold w_BodyS at h; omega
  show laws_toBodyS_l1 a i out=_
  unfold laws_toBodyS_l1
  rw [ifT (by simpa using hlt),zQ,hi,Option.bind_some]
  rw [to_Body hw,Option.bind_some]
  rw [zQ,List.getElem?_eq_getElem (by omega),Option.bind_some,wk64 (by omega) (by omega),Int.toNat_natCast]
  rfl) (fun out hl2=>by
  show laws_toBodyS_l1 a a.length out=_
  unfold laws_toBodyS_l1
  rw [ifF (by simp)])
 rw [this]
 show some (a.map (fun x=>c_Body x))=some (c_BodyS a)
 rfl
def w_Weave (a:T_laws_Weave):Nat:=w_IntSS a.Parents+w_BodyS a.Bodies
def ok_Weave (a:T_laws_Weave):Prop:=ok_IntSS a.Parents∧ok_BodyS a.Bodies
def sm_Weave (a:T_laws_Weave):Prop:=sm_IntSS a.Parents∧sm_BodyS a.Bodies
theorem ok_of_Weave {a:T_laws_Weave} (h:sm_Weave a):ok_Weave a:=⟨ok_of_IntSS h.1,ok_of_BodyS h.2⟩
def c_Weave (a:T_laws_Weave):T_impl_Weave:=⟨a.Parents,c_BodyS a.Bodies⟩
theorem sz_Weave {a:T_laws_Weave} {s:Int} (h:ok_Weave a) (h0:0≤s) (h1:s≤1048576):laws_szWeave a s=some (if (w_Weave a:Int)≤s then s - w_Weave a else -1):=by
 unfold ok_Weave at h
 obtain ⟨o0,o1⟩:=h
 unfold laws_szWeave w_Weave
 rw [sz_IntSS o0 (by omega) (by omega),Option.bind_some]
 by_cases q0:(w_IntSS a.Parents:Int)≤s
 case neg=>rw [if_neg q0,ifT (by simp),if_neg (by omega)]
 rw [if_pos q0,ifF (by simp; omega)]
 rw [sz_BodyS o1 (by omega) (by omega),Option.bind_some]
 by_cases q1:(w_BodyS a.Bodies:Int)≤s - (w_IntSS a.Parents:Int)
 case neg=>rw [if_neg q1,ifT (by simp),if_neg (by omega)]
 rw [if_pos q1,ifF (by simp; omega)]
 exact congrArg some (by split <;> omega)
theorem to_Weave {a:T_laws_Weave} (h:w_Weave a≤1048576):laws_toWeave a=some (c_Weave a):=by
 unfold w_Weave at h
 unfold laws_toWeave
 rw [to_IntSS (by omega),Option.bind_some]
 rw [to_BodyS (by omega),Option.bind_some]
 rfl
def w_WeaveS (a:List T_laws_Weave):Nat:=a.length+sumOf w_Weave a
def ok_WeaveS (a:List T_laws_Weave):Prop:=a.length≤LB∧∀ x ∈ a,ok_Weave x
def sm_WeaveS (a:List T_laws_Weave):Prop:=a.length * 48≤140737488351232∧∀ x ∈ a,sm_Weave x
theorem ok_of_WeaveS {a:List T_laws_Weave} (h:sm_WeaveS a):ok_WeaveS a:=⟨by have:=h.1; unfold LB; omega,fun x hx=>ok_of_Weave (h.2 x hx)⟩
def c_WeaveS (a:List T_laws_Weave):List T_impl_Weave:=a.map c_Weave
theorem sz_WeaveS {a:List T_laws_Weave} {s:Int} (h:ok_WeaveS a) (h0:0≤s) (h1:s≤1048576):laws_szWeaveS a s=some (if (w_WeaveS a:Int)≤s then s - w_WeaveS a else -1):=by
 have hl:a.length≤1000000000000000:=h.1
 unfold laws_szWeaveS w_WeaveS
 rw [wk64 (x:=s - (a.length:Int)) (by omega) (by omega)]
 by_cases q:s - (a.length:Int) < 0
 ·rw [ifT (by simpa using q),if_neg (by omega)]
 ·rw [ifF (by simpa using q)]
  have:=sz_loop (body:=fun (s':Int×Int)=>laws_szWeaveS_l1 a s'.1 s'.2) w_Weave a (s - a.length) (by omega) (fun t i x hi h2 h3=>by
   have hlt:=(List.getElem?_eq_some_iff.1 hi).1
   have hxs:=h.2 x (List.mem_of_getElem? hi)
   show laws_szWeaveS_l1 a t i=_
   unfold laws_szWeaveS_l1
   rw [ifT (by simpa using hlt),zQ,hi,Option.bind_some,sz_Weave hxs h2 (by omega),Option.bind_some]
   by_cases q2:(w_Weave x:Int)≤t
   ·rw [if_pos q2,ifF (by simp; omega),if_pos q2,wk64 (by omega) (by omega)]
    rfl
   ·rw [if_neg q2,ifT (by simp),if_neg q2]) (fun t=>by
   show laws_szWeaveS_l1 a t a.length=_
   unfold laws_szWeaveS_l1
   rw [ifF (by simp)])
  rw [this,Option.bind_some]
  by_cases q2:(sumOf w_Weave a:Int)≤s - a.length
  ·rw [if_pos q2,if_pos (by omega)]
   simp only [laws_szWeaveS_j1]
   congr 1
   omega
  ·rw [if_neg q2,if_neg (by omega)]
theorem to_WeaveS {a:List T_laws_Weave} (h:w_WeaveS a≤1048576):laws_toWeaveS a=some (c_WeaveS a):=by
 have hl:a.length≤1048576:=by unfold w_WeaveS at h; omega
 unfold laws_toWeaveS
 rw [mkl_in (by omega) (by omega),Option.bind_some,Int.toNat_natCast]
 have:=to_loop (body:=fun (s':Int×(List T_impl_Weave))=>laws_toWeaveS_l1 a s'.1 s'.2) a (fun x=>c_Weave x) (T_impl_Weave.mk [] []) (fun i x out hi hl2=>by
  have hlt:=(List.getElem?_eq_some_iff.1 hi).1
  have hw:w_Weave x≤1048576:=by have:=sumOf_mem (w:=w_Weave) (List.mem_of_getElem? hi); unfold w_WeaveS at h; omega
  show laws_toWeaveS_l1 a i out=_
  unfold laws_toWeaveS_l1
  rw [ifT (by simpa using hlt),zQ,hi,Option.bind_some]
  rw [to_Weave hw,Option.bind_some]
  rw [zQ,List.getElem?_eq_getElem (by omega),Option.bind_some,wk64 (by omega) (by omega),Int.toNat_natCast]
  rfl) (fun out hl2=>by
  show laws_toWeaveS_l1 a a.length out=_
  unfold laws_toWeaveS_l1
  rw [ifF (by simp)])
 rw [this]
 show some (a.map (fun x=>c_Weave x))=some (c_WeaveS a)
 rfl
def w_Store (a:T_laws_Store):Nat:=w_CommitS a.Commits+w_WeaveS a.Files
def ok_Store (a:T_laws_Store):Prop:=ok_CommitS a.Commits∧ok_WeaveS a.Files
def sm_Store (a:T_laws_Store):Prop:=sm_CommitS a.Commits∧sm_WeaveS a.Files
theorem ok_of_Store {a:T_laws_Store} (h:sm_Store a):ok_Store a:=⟨ok_of_CommitS h.1,ok_of_WeaveS h.2⟩
def c_Store (a:T_laws_Store):T_impl_Store:=⟨c_CommitS a.Commits,c_WeaveS a.Files⟩
theorem sz_Store {a:T_laws_Store} {s:Int} (h:ok_Store a) (h0:0≤s) (h1:s≤1048576):laws_szStore a s=some (if (w_Store a:Int)≤s then s - w_Store a else -1):=by
 unfold ok_Store at h
 obtain ⟨o0,o1⟩:=h
 unfold laws_szStore w_Store
 rw [sz_CommitS o0 (by omega) (by omega),Option.bind_some]
 by_cases q0:(w_CommitS a.Commits:Int)≤s
 case neg=>rw [if_neg q0,ifT (by simp),if_neg (by omega)]
 rw [if_pos q0,ifF (by simp; omega)]
 rw [sz_WeaveS o1 (by omega) (by omega),Option.bind_some]
 by_cases q1:(w_WeaveS a.Files:Int)≤s - (w_CommitS a.Commits:Int)
 case neg=>rw [if_neg q1,ifT (by simp),if_neg (by omega)]
 rw [if_pos q1,ifF (by simp; omega)]
 exact congrArg some (by split <;> omega)
theorem to_Store {a:T_laws_Store} (h:w_Store a≤1048576):laws_toStore a=some (c_Store a):=by
 unfold w_Store at h
 unfold laws_toStore
 rw [to_CommitS (by omega),Option.bind_some]
 rw [to_WeaveS (by omega),Option.bind_some]
 rfl
def z_IntS (a:List Int):Nat:=a.length
def n_IntS (a:List Int):Nat:=sumOf (fun _=>1) a
noncomputable def m_IntS (a:List Int) (k:Int):List Int:=mkL (fun _=>1) (fun _ k=>k) a k
theorem eq_IntS {a:List Int} (h:z_IntS a≤1000000000):laws_eqIntS a a=some true:=by
 have hl:a.length≤1000000000:=by unfold z_IntS at h; omega
 unfold laws_eqIntS
 rw [ifF (by simp)]
 have:=eq_loop (body:=fun s'=>laws_eqIntS_l1 a a s') (r:=.inr ()) a.length (fun i hi=>by
  unfold laws_eqIntS_l1
  rw [ifT (by simpa using hi),zQ,List.getElem?_eq_getElem hi,Option.bind_some,Option.bind_some]
  rw [ifF (by simp),wk64 (by omega) (by omega)]
  rfl) (by
  unfold laws_eqIntS_l1
  rw [ifF (by simp)])
 rw [this]
 rfl
theorem mark_IntS {a:List Int} {k:Int} (h1:1≤k) (h2:k+n_IntS a≤1000000000) (h3:z_IntS a≤1000000000):laws_markIntS a k=some (k+n_IntS a,m_IntS a k):=by
 have hl:a.length≤1000000000:=by unfold z_IntS at h3; omega
 unfold laws_markIntS
 have:=mark_loop (body:=fun (s':Int×Int×(List Int))=>laws_markIntS_l1 s'.1 s'.2.1 s'.2.2) (fun _=>1) (fun _ k=>k) a k 1000000000 h1 h2 (fun k i x l hi hx hl2 hk hB=>by
  have hlt:i < l.length:=(List.getElem?_eq_some_iff.1 hi).1
  show laws_markIntS_l1 k i l=_
  unfold laws_markIntS_l1
  rw [ifT (by simp; omega)]
  simp (disch:=first | omega | (simp only; omega)) only [markText_eq,wk64,zQ,gset,hi,Option.bind_some,List.set_set,Int.toNat_natCast]
  refine inl3 ?_ (by omega) rfl
  rfl) (fun k l hl2=>by
  show laws_markIntS_l1 k a.length l=_
  unfold laws_markIntS_l1
  rw [ifF (by simp; omega)])
 rw [this]
 rfl
theorem held_IntS {a:List Int} {k:Int} (h1:1≤k) (h2:k+n_IntS a≤1000000000) (h3:z_IntS a≤1000000000):laws_heldIntS (m_IntS a k) k=some (k+n_IntS a):=by
 have hl:a.length≤1000000000:=by unfold z_IntS at h3; omega
 unfold laws_heldIntS
 have:=held_loop (body:=fun (s':Int×Int)=>laws_heldIntS_l1 (m_IntS a k) s'.1 s'.2) (r:=.inr) (fun _=>1) (fun _ k=>k) a k 1000000000 h1 h2 (fun q i x hi hlt hx hk hB=>by
  have hi:(m_IntS a k)[i]? = some (q):=hi
  have hml:(m_IntS a k).length=a.length:=mkL_len _ _ _ _
  show laws_heldIntS_l1 (m_IntS a k) q i=_
  unfold laws_heldIntS_l1
  rw [ifT (by rw [hml]; simpa using hlt)]
  simp (disch:=omega) only [zQ,hi,Option.bind_some,markText_eq,wk64,bne_self_eq_false,BEq.rfl,Bool.not_true,Bool.false_eq_true,if_false,ltF]
  refine inl2 ?_ (by omega)
  rfl) (fun q=>by
  have hml:(m_IntS a k).length=a.length:=mkL_len _ _ _ _
  show laws_heldIntS_l1 (m_IntS a k) q a.length=_
  unfold laws_heldIntS_l1
  rw [ifF (by rw [hml]; simp)])
 rw [this]
 rfl
def z_Name (a:T_impl_Name):Nat:=0
def n_Name (a:T_impl_Name):Nat:=1+1+1
noncomputable def m_Name (a:T_impl_Name) (k:Int):T_impl_Name:=⟨mT (k),k+1,k+1+1⟩
theorem eq_Name {a:T_impl_Name} (h:z_Name a≤1000000000):laws_eqName a a=some true:=by
 unfold z_Name at h
 unfold laws_eqName
 simp only [Option.bind_some,Bool.not_true,Bool.false_eq_true,if_false,bne_self_eq_false,BEq.rfl]
def z_NameS (a:List T_impl_Name):Nat:=a.length+sumOf z_Name a
def n_NameS (a:List T_impl_Name):Nat:=sumOf n_Name a
noncomputable def m_NameS (a:List T_impl_Name) (k:Int):List T_impl_Name:=mkL n_Name m_Name a k
theorem eq_NameS {a:List T_impl_Name} (h:z_NameS a≤1000000000):laws_eqNameS a a=some true:=by
 have hl:a.length≤1000000000:=by unfold z_NameS at h; omega
 unfold laws_eqNameS
 rw [ifF (by simp)]
 have:=eq_loop (body:=fun s'=>laws_eqNameS_l1 a a s') (r:=.inr ()) a.length (fun i hi=>by
  have hw:z_Name a[i]≤1000000000:=by have:=sumOf_mem (w:=z_Name) (List.getElem_mem hi); unfold z_NameS at h; omega
  unfold laws_eqNameS_l1
  rw [ifT (by simpa using hi),zQ,List.getElem?_eq_getElem hi,Option.bind_some,Option.bind_some]
  rw [eq_Name hw,Option.bind_some]
  rw [ifF (by simp),wk64 (by omega) (by omega)]
  rfl) (by
  unfold laws_eqNameS_l1
  rw [ifF (by simp)])
 rw [this]
 rfl
theorem mark_NameS {a:List T_impl_Name} {k:Int} (h1:1≤k) (h2:k+n_NameS a≤1000000000) (h3:z_NameS a≤1000000000):laws_markNameS a k=some (k+n_NameS a,m_NameS a k):=by
 have hl:a.length≤1000000000:=by unfold z_NameS at h3; omega
 unfold laws_markNameS
 have:=mark_loop (body:=fun (s':Int×Int×(List T_impl_Name))=>jQ s'.1 s'.2.1 s'.2.2) n_Name m_Name a k 1000000000 h1 h2 (fun k i x l hi hx hl2 hk hB=>by
  have hlt:i < l.length:=(List.getElem?_eq_some_iff.1 hi).1
  have hz:z_Name x≤1000000000:=by have:=sumOf_mem (w:=z_Name) hx; unfold z_NameS at h3; omega
  unfold z_Name at hz
  simp only [n_Name,Int.natCast_add,Int.natCast_one,Int.cast_ofNat_Int] at hB
  show jQ k i l=_
  unfold jQ
  rw [ifT (by simp; omega)]
  simp (disch:=first | omega | (simp only; omega)) only [markText_eq,wk64,zQ,gset,hi,Option.bind_some,List.set_set,Int.toNat_natCast]
  refine inl3 ?_ (by omega) rfl
  simp only [n_Name,Int.natCast_add,Int.natCast_one]; omega) (fun k l hl2=>by
  show jQ k a.length l=_
  unfold jQ
  rw [ifF (by simp; omega)])
 rw [this]
 rfl
def z_Commit (a:T_impl_Commit):Nat:=z_IntS a.Parents+z_NameS a.Names
def n_Commit (a:T_impl_Commit):Nat:=n_IntS a.Parents+1+n_NameS a.Names
noncomputable def m_Commit (a:T_impl_Commit) (k:Int):T_impl_Commit:=⟨m_IntS a.Parents (k),mT (k+(n_IntS a.Parents:Int)),m_NameS a.Names (k+(n_IntS a.Parents:Int)+1)⟩
theorem eq_Commit {a:T_impl_Commit} (h:z_Commit a≤1000000000):laws_eqCommit a a=some true:=by
 unfold z_Commit at h
 unfold laws_eqCommit
 simp only [eq_IntS (a:=a.Parents) (by omega),eq_NameS (a:=a.Names) (by omega),Option.bind_some,Bool.not_true,Bool.false_eq_true,if_false,bne_self_eq_false,BEq.rfl]
def z_CommitS (a:List T_impl_Commit):Nat:=a.length+sumOf z_Commit a
def n_CommitS (a:List T_impl_Commit):Nat:=sumOf n_Commit a
noncomputable def m_CommitS (a:List T_impl_Commit) (k:Int):List T_impl_Commit:=mkL n_Commit m_Commit a k
theorem eq_CommitS {a:List T_impl_Commit} (h:z_CommitS a≤1000000000):laws_eqCommitS a a=some true:=by
 have hl:a.length≤1000000000:=by unfold z_CommitS at h; omega
 unfold laws_eqCommitS
 rw [ifF (by simp)]
 have:=eq_loop (body:=fun s'=>laws_eqCommitS_l1 a a s') (r:=.inr ()) a.length (fun i hi=>by
  have hw:z_Commit a[i]≤1000000000:=by have:=sumOf_mem (w:=z_Commit) (List.getElem_mem hi); unfold z_CommitS at h; omega
  unfold laws_eqCommitS_l1
  rw [ifT (by simpa using hi),zQ,List.getElem?_eq_getElem hi,Option.bind_some,Option.bind_some]
  rw [eq_Commit hw,Option.bind_some]
  rw [ifF (by simp),wk64 (by omega) (by omega)]
  rfl) (by
  unfold laws_eqCommitS_l1
  rw [ifF (by simp)])
 rw [this]
 rfl
theorem mark_CommitS {a:List T_impl_Commit} {k:Int} (h1:1≤k) (h2:k+n_CommitS a≤1000000000) (h3:z_CommitS a≤1000000000):laws_markCommitS a k=some (k+n_CommitS a,m_CommitS a k):=by
 have hl:a.length≤1000000000:=by unfold z_CommitS at h3; omega
 unfold laws_markCommitS
 have:=mark_loop (body:=fun (s':Int×Int×(List T_impl_Commit))=>jE s'.1 s'.2.1 s'.2.2) n_Commit m_Commit a k 1000000000 h1 h2 (fun k i x l hi hx hl2 hk hB=>by
  have hlt:i < l.length:=(List.getElem?_eq_some_iff.1 hi).1
  have hz:z_Commit x≤1000000000:=by have:=sumOf_mem (w:=z_Commit) hx; unfold z_CommitS at h3; omega
  unfold z_Commit at hz
  simp only [n_Commit,Int.natCast_add,Int.natCast_one,Int.cast_ofNat_Int] at hB
  show jE k i l=_
  unfold jE
  rw [ifT (by simp; omega)]
  simp (disch:=first | omega | (simp only; omega)) only [markText_eq,wk64,zQ,gset,hi,Option.bind_some,List.set_set,Int.toNat_natCast,mark_IntS,mark_NameS]
  refine inl3 ?_ (by omega) rfl
  simp only [n_Commit,Int.natCast_add,Int.natCast_one]; omega) (fun k l hl2=>by
  show jE k a.length l=_
  unfold jE
  rw [ifF (by simp; omega)])
 rw [this]
 rfl
def z_IntSS (a:List (List Int)):Nat:=a.length+sumOf z_IntS a
def n_IntSS (a:List (List Int)):Nat:=sumOf n_IntS a
noncomputable def m_IntSS (a:List (List Int)) (k:Int):List (List Int):=mkL n_IntS m_IntS a k
theorem eq_IntSS {a:List (List Int)} (h:z_IntSS a≤1000000000):laws_eqIntSS a a=some true:=by
 have hl:a.length≤1000000000:=by unfold z_IntSS at h; omega
 unfold laws_eqIntSS
 rw [ifF (by simp)]
 have:=eq_loop (body:=fun s'=>laws_eqIntSS_l1 a a s') (r:=.inr ()) a.length (fun i hi=>by
  have hw:z_IntS a[i]≤1000000000:=by have:=sumOf_mem (w:=z_IntS) (List.getElem_mem hi); unfold z_IntSS at h; omega
  unfold laws_eqIntSS_l1
  rw [ifT (by simpa using hi),zQ,List.getElem?_eq_getElem hi,Option.bind_some,Option.bind_some]
  rw [eq_IntS hw,Option.bind_some]
  rw [ifF (by simp),wk64 (by omega) (by omega)]
  rfl) (by
  unfold laws_eqIntSS_l1
  rw [ifF (by simp)])
 rw [this]
 rfl
theorem mark_IntSS {a:List (List Int)} {k:Int} (h1:1≤k) (h2:k+n_IntSS a≤1000000000) (h3:z_IntSS a≤1000000000):laws_markIntSS a k=some (k+n_IntSS a,m_IntSS a k):=by
 have hl:a.length≤1000000000:=by unfold z_IntSS at h3; omega
 unfold laws_markIntSS
 have:=mark_loop (body:=fun (s':Int×Int×(List (List Int)))=>jS s'.1 s'.2.1 s'.2.2) n_IntS m_IntS a k 1000000000 h1 h2 (fun k i x l hi hx hl2 hk hB=>by
  have hlt:i < l.length:=(List.getElem?_eq_some_iff.1 hi).1
  have hz:z_IntS x≤1000000000:=by have:=sumOf_mem (w:=z_IntS) hx; unfold z_IntSS at h3; omega
  show jS k i l=_
  unfold jS
  rw [ifT (by simp; omega)]
  simp (disch:=first | omega | (simp only; omega)) only [markText_eq,wk64,zQ,gset,hi,Option.bind_some,List.set_set,Int.toNat_natCast,mark_IntS]
  refine inl3 ?_ (by omega) rfl
  rfl) (fun k l hl2=>by
  show jS k a.length l=_
  unfold jS
  rw [ifF (by simp; omega)])
 rw [this]
 rfl
def z_Body (a:T_impl_Body):Nat:=z_IntS a.Dels
def n_Body (a:T_impl_Body):Nat:=1+1+1+n_IntS a.Dels
noncomputable def m_Body (a:T_impl_Body) (k:Int):T_impl_Body:=⟨mT (k),k+1,k+1+1,m_IntS a.Dels (k+1+1+1)⟩
theorem eq_Body {a:T_impl_Body} (h:z_Body a≤1000000000):laws_eqBody a a=some true:=by
 unfold z_Body at h
 unfold laws_eqBody
 simp only [eq_IntS (a:=a.Dels) (by omega),Option.bind_some,Bool.not_true,Bool.false_eq_true,if_false,bne_self_eq_false,BEq.rfl]
def z_BodyS (a:List T_impl_Body):Nat:=a.length+sumOf z_Body a
def n_BodyS (a:List T_impl_Body):Nat:=sumOf n_Body a
noncomputable def m_BodyS (a:List T_impl_Body) (k:Int):List T_impl_Body:=mkL n_Body m_Body a k
theorem eq_BodyS {a:List T_impl_Body} (h:z_BodyS a≤1000000000):laws_eqBodyS a a=some true:=by
 have hl:a.length≤1000000000:=by unfold z_BodyS at h; omega
 unfold laws_eqBodyS
 rw [ifF (by simp)]
 have:=eq_loop (body:=fun s'=>laws_eqBodyS_l1 a a s') (r:=.inr ()) a.length (fun i hi=>by
  have hw:z_Body a[i]≤1000000000:=by have:=sumOf_mem (w:=z_Body) (List.getElem_mem hi); unfold z_BodyS at h; omega
  unfold laws_eqBodyS_l1
  rw [ifT (by simpa using hi),zQ,List.getElem?_eq_getElem hi,Option.bind_some,Option.bind_some]
  rw [eq_Body hw,Option.bind_some]
  rw [ifF (by simp),wk64 (by omega) (by omega)]
  rfl) (by
  unfold laws_eqBodyS_l1
  rw [ifF (by simp)])
 rw [this]
 rfl
theorem mark_BodyS {a:List T_impl_Body} {k:Int} (h1:1≤k) (h2:k+n_BodyS a≤1000000000) (h3:z_BodyS a≤1000000000):laws_markBodyS a k=some (k+n_BodyS a,m_BodyS a k):=by
 have hl:a.length≤1000000000:=by unfold z_BodyS at h3; omega
 unfold laws_markBodyS
 have:=mark_loop (body:=fun (s':Int×Int×(List T_impl_Body))=>jN s'.1 s'.2.1 s'.2.2) n_Body m_Body a k 1000000000 h1 h2 (fun k i x l hi hx hl2 hk hB=>by
  have hlt:i < l.length:=(List.getElem?_eq_some_iff.1 hi).1
  have hz:z_Body x≤1000000000:=by have:=sumOf_mem (w:=z_Body) hx; unfold z_BodyS at h3; omega
  unfold z_Body at hz
  simp only [n_Body,Int.natCast_add,Int.natCast_one,Int.cast_ofNat_Int] at hB
  show jN k i l=_
  unfold jN
  rw [ifT (by simp; omega)]
  simp (disch:=first | omega | (simp only; omega)) only [markText_eq,wk64,zQ,gset,hi,Option.bind_some,List.set_set,Int.toNat_natCast,mark_IntS]
  refine inl3 ?_ (by omega) rfl
  simp only [n_Body,Int.natCast_add,Int.natCast_one]; omega) (fun k l hl2=>by
  show jN k a.length l=_
  unfold jN
  rw [ifF (by simp; omega)])
 rw [this]
 rfl
def z_Weave (a:T_impl_Weave):Nat:=z_IntSS a.Parents+z_BodyS a.Bodies
def n_Weave (a:T_impl_Weave):Nat:=n_IntSS a.Parents+n_BodyS a.Bodies
noncomputable def m_Weave (a:T_impl_Weave) (k:Int):T_impl_Weave:=⟨m_IntSS a.Parents (k),m_BodyS a.Bodies (k+(n_IntSS a.Parents:Int))⟩
theorem eq_Weave {a:T_impl_Weave} (h:z_Weave a≤1000000000):laws_eqWeave a a=some true:=by
 unfold z_Weave at h
 unfold laws_eqWeave
 simp only [eq_IntSS (a:=a.Parents) (by omega),eq_BodyS (a:=a.Bodies) (by omega),Option.bind_some,Bool.not_true,Bool.false_eq_true,if_false,bne_self_eq_false,BEq.rfl]
def z_WeaveS (a:List T_impl_Weave):Nat:=a.length+sumOf z_Weave a
def n_WeaveS (a:List T_impl_Weave):Nat:=sumOf n_Weave a
noncomputable def m_WeaveS (a:List T_impl_Weave) (k:Int):List T_impl_Weave:=mkL n_Weave m_Weave a k
theorem eq_WeaveS {a:List T_impl_Weave} (h:z_WeaveS a≤1000000000):laws_eqWeaveS a a=some true:=by
 have hl:a.length≤1000000000:=by unfold z_WeaveS at h; omega
 unfold laws_eqWeaveS
 rw [ifF (by simp)]
 have:=eq_loop (body:=fun s'=>laws_eqWeaveS_l1 a a s') (r:=.inr ()) a.length (fun i hi=>by
  have hw:z_Weave a[i]≤1000000000:=by have:=sumOf_mem (w:=z_Weave) (List.getElem_mem hi); unfold z_WeaveS at h; omega
  unfold laws_eqWeaveS_l1
  rw [ifT (by simpa using hi),zQ,List.getElem?_eq_getElem hi,Option.bind_some,Option.bind_some]
  rw [eq_Weave hw,Option.bind_some]
  rw [ifF (by simp),wk64 (by omega) (by omega)]
  rfl) (by
  unfold laws_eqWeaveS_l1
  rw [ifF (by simp)])
 rw [this]
 rfl
theorem mark_WeaveS {a:List T_impl_Weave} {k:Int} (h1:1≤k) (h2:k+n_WeaveS a≤1000000000) (h3:z_WeaveS a≤1000000000):laws_markWeaveS a k=some (k+n_WeaveS a,m_WeaveS a k):=by
 have hl:a.length≤1000000000:=by unfold z_WeaveS at h3; omega
 unfold laws_markWeaveS
 have:=mark_loop (body:=fun (s':Int×Int×(List T_impl_Weave))=>jK s'.1 s'.2.1 s'.2.2) n_Weave m_Weave a k 1000000000 h1 h2 (fun k i x l hi hx hl2 hk hB=>by
  have hlt:i < l.length:=(List.getElem?_eq_some_iff.1 hi).1
  have hz:z_Weave x≤1000000000:=by have:=sumOf_mem (w:=z_Weave) hx; unfold z_WeaveS at h3; omega
  unfold z_Weave at hz
  simp only [n_Weave,Int.natCast_add,Int.natCast_one,Int.cast_ofNat_Int] at hB
  show jK k i l=_
  unfold jK
  rw [ifT (by simp; omega)]
  simp (disch:=first | omega | (simp only; omega)) only [markText_eq,wk64,zQ,gset,hi,Option.bind_some,List.set_set,Int.toNat_natCast,mark_IntSS,mark_BodyS]
  refine inl3 ?_ (by omega) rfl
  simp only [n_Weave,Int.natCast_add,Int.natCast_one]; omega) (fun k l hl2=>by
  show jK k a.length l=_
  unfold jK
  rw [ifF (by simp; omega)])
 rw [this]
 rfl
def z_Store (a:T_impl_Store):Nat:=z_CommitS a.Commits+z_WeaveS a.Files
def n_Store (a:T_impl_Store):Nat:=n_CommitS a.Commits+n_WeaveS a.Files
theorem eq_Store {a:T_impl_Store} (h:z_Store a≤1000000000):laws_eqStore a a=some true:=by
 unfold z_Store at h
 unfold laws_eqStore
 simp only [eq_CommitS (a:=a.Commits) (by omega),eq_WeaveS (a:=a.Files) (by omega),Option.bind_some,Bool.not_true,Bool.false_eq_true,if_false,bne_self_eq_false,BEq.rfl]
theorem mark_Store {a:T_impl_Store} {k:Int} (h1:1≤k) (h2:k+n_Store a≤1000000000) (h3:z_Store a≤1000000000):laws_markStore a k=some (k+n_Store a):=by
 unfold z_Store at h3
 simp only [n_Store,Int.natCast_add,Int.natCast_one] at h2 ⊢
 unfold laws_markStore
 simp (disch:=omega) only [mark_CommitS,mark_WeaveS,Option.bind_some]
 congr 1
 omega
theorem zc_IntS (a:List Int):z_IntS (c_IntS a)≤w_IntS a:=by
 unfold z_IntS c_IntS w_IntS
 omega
theorem nc_IntS (a:List Int):n_IntS (c_IntS a)≤8 * w_IntS a:=by
 unfold n_IntS c_IntS w_IntS
 rw [sumK1]
 omega
theorem zc_Name (a:T_laws_Name):z_Name (c_Name a)≤w_Name a:=by
 show 0≤_
 unfold w_Name
 omega
theorem nc_Name (a:T_laws_Name):n_Name (c_Name a)≤8 * w_Name a+8:=by
 show 1+1+1≤_
 unfold w_Name
 omega
theorem cm_NameS (a:List T_laws_Name):c_NameS a=a.map c_Name:=rfl
theorem zc_NameS (a:List T_laws_Name):z_NameS (c_NameS a)≤w_NameS a:=by
 rw [cm_NameS]
 unfold z_NameS w_NameS
 have:=sumOf_map (w:=z_Name) (f:=c_Name) (v:=w_Name) a (fun x _=>zc_Name x)
 rw [List.length_map]
 omega
theorem nc_NameS (a:List T_laws_Name):n_NameS (c_NameS a)≤8 * w_NameS a:=by
 rw [cm_NameS]
 unfold n_NameS w_NameS
 have:=sumOf_map8 (w:=n_Name) (f:=c_Name) (v:=w_Name) a (fun x _=>nc_Name x)
 omega
theorem zc_Commit (a:T_laws_Commit):z_Commit (c_Commit a)≤w_Commit a:=by
 have:z_IntS (a.Parents)≤w_IntS a.Parents:=zc_IntS a.Parents
 have:z_NameS (c_NameS a.Names)≤w_NameS a.Names:=zc_NameS a.Names
 show z_IntS (a.Parents)+z_NameS (c_NameS a.Names)≤_
 unfold w_Commit
 omega
theorem nc_Commit (a:T_laws_Commit):n_Commit (c_Commit a)≤8 * w_Commit a+8:=by
 have:n_IntS (a.Parents)≤8 * w_IntS a.Parents:=nc_IntS a.Parents
 have:n_NameS (c_NameS a.Names)≤8 * w_NameS a.Names:=nc_NameS a.Names
 show n_IntS (a.Parents)+1+n_NameS (c_NameS a.Names)≤_
 unfold w_Commit
 omega
theorem cm_CommitS (a:List T_laws_Commit):c_CommitS a=a.map c_Commit:=rfl
theorem zc_CommitS (a:List T_laws_Commit):z_CommitS (c_CommitS a)≤w_CommitS a:=by
 rw [cm_CommitS]
 unfold z_CommitS w_CommitS
 have:=sumOf_map (w:=z_Commit) (f:=c_Commit) (v:=w_Commit) a (fun x _=>zc_Commit x)
 rw [List.length_map]
 omega
theorem nc_CommitS (a:List T_laws_Commit):n_CommitS (c_CommitS a)≤8 * w_CommitS a:=by
 rw [cm_CommitS]
 unfold n_CommitS w_CommitS
 have:=sumOf_map8 (w:=n_Commit) (f:=c_Commit) (v:=w_Commit) a (fun x _=>nc_Commit x)
 omega
theorem cm_IntSS (a:List (List Int)):c_IntSS a=a.map c_IntS:=by unfold c_IntSS; exact ((List.map_congr_left (fun x _=>rfl)).trans (List.map_id' a)).symm
theorem zc_IntSS (a:List (List Int)):z_IntSS (c_IntSS a)≤w_IntSS a:=by
 rw [cm_IntSS]
 unfold z_IntSS w_IntSS
 have:=sumOf_map (w:=z_IntS) (f:=c_IntS) (v:=w_IntS) a (fun x _=>zc_IntS x)
 rw [List.length_map]
 omega
theorem nc_IntSS (a:List (List Int)):n_IntSS (c_IntSS a)≤8 * w_IntSS a:=by
 rw [cm_IntSS]
 unfold n_IntSS w_IntSS
 have:=sumOf_map8 (w:=n_IntS) (f:=c_IntS) (v:=w_IntS) a (fun x _=>Nat.le_trans (nc_IntS x) (by omega))
 omega
theorem zc_Body (a:T_laws_Body):z_Body (c_Body a)≤w_Body a:=by
 have:z_IntS (a.Dels)≤w_IntS a.Dels:=zc_IntS a.Dels
 show z_IntS (a.Dels)≤_
 unfold w_Body
 omega
theorem nc_Body (a:T_laws_Body):n_Body (c_Body a)≤8 * w_Body a+8:=by
 have:n_IntS (a.Dels)≤8 * w_IntS a.Dels:=nc_IntS a.Dels
 show 1+1+1+n_IntS (a.Dels)≤_
 unfold w_Body
 omega
theorem cm_BodyS (a:List T_laws_Body):c_BodyS a=a.map c_Body:=rfl
theorem zc_BodyS (a:List T_laws_Body):z_BodyS (c_BodyS a)≤w_BodyS a:=by
 rw [cm_BodyS]
 unfold z_BodyS w_BodyS
 have:=sumOf_map (w:=z_Body) (f:=c_Body) (v:=w_Body) a (fun x _=>zc_Body x)
 rw [List.length_map]
 omega
theorem nc_BodyS (a:List T_laws_Body):n_BodyS (c_BodyS a)≤8 * w_BodyS a:=by
 rw [cm_BodyS]
 unfold n_BodyS w_BodyS
 have:=sumOf_map8 (w:=n_Body) (f:=c_Body) (v:=w_Body) a (fun x _=>nc_Body x)
 omega
theorem zc_Weave (a:T_laws_Weave):z_Weave (c_Weave a)≤w_Weave a:=by
 have:z_IntSS (a.Parents)≤w_IntSS a.Parents:=zc_IntSS a.Parents
 have:z_BodyS (c_BodyS a.Bodies)≤w_BodyS a.Bodies:=zc_BodyS a.Bodies
 show z_IntSS (a.Parents)+z_BodyS (c_BodyS a.Bodies)≤_
 unfold w_Weave
 omega
theorem nc_Weave (a:T_laws_Weave):n_Weave (c_Weave a)≤8 * w_Weave a+8:=by
 have:n_IntSS (a.Parents)≤8 * w_IntSS a.Parents:=nc_IntSS a.Parents
 have:n_BodyS (c_BodyS a.Bodies)≤8 * w_BodyS a.Bodies:=nc_BodyS a.Bodies
 show n_IntSS (a.Parents)+n_BodyS (c_BodyS a.Bodies)≤_
 unfold w_Weave
 omega
theorem cm_WeaveS (a:List T_laws_Weave):c_WeaveS a=a.map c_Weave:=rfl
theorem zc_WeaveS (a:List T_laws_Weave):z_WeaveS (c_WeaveS a)≤w_WeaveS a:=by
 rw [cm_WeaveS]
 unfold z_WeaveS w_WeaveS
 have:=sumOf_map (w:=z_Weave) (f:=c_Weave) (v:=w_Weave) a (fun x _=>zc_Weave x)
 rw [List.length_map]
 omega
theorem nc_WeaveS (a:List T_laws_Weave):n_WeaveS (c_WeaveS a)≤8 * w_WeaveS a:=by
 rw [cm_WeaveS]
 unfold n_WeaveS w_WeaveS
 have:=sumOf_map8 (w:=n_Weave) (f:=c_Weave) (v:=w_Weave) a (fun x _=>nc_Weave x)
 omega
theorem zc_Store (a:T_laws_Store):z_Store (c_Store a)≤w_Store a:=by
 have:z_CommitS (c_CommitS a.Commits)≤w_CommitS a.Commits:=zc_CommitS a.Commits
 have:z_WeaveS (c_WeaveS a.Files)≤w_WeaveS a.Files:=zc_WeaveS a.Files
 show z_CommitS (c_CommitS a.Commits)+z_WeaveS (c_WeaveS a.Files)≤_
 unfold w_Store
 omega
theorem nc_Store (a:T_laws_Store):n_Store (c_Store a)≤8 * w_Store a+8:=by
 have:n_CommitS (c_CommitS a.Commits)≤8 * w_CommitS a.Commits:=nc_CommitS a.Commits
 have:n_WeaveS (c_WeaveS a.Files)≤8 * w_WeaveS a.Files:=nc_WeaveS a.Files
 show n_CommitS (c_CommitS a.Commits)+n_WeaveS (c_WeaveS a.Files)≤_
 unfold w_Store
 omega
end Go.TV.F
namespace Go.TV.F
open Go.TV
theorem smN_c {a:List T_laws_Name} (h:w_NameS a≤1048576):smN (c_NameS a):=fun n hn=>by
 obtain ⟨x,hx,rfl⟩:=List.mem_map.1 hn
 have:=sumOf_mem (w:=w_Name) hx
 unfold w_NameS w_Name at *
 show x.Path.size≤_
 omega
theorem smC_c {a:List T_laws_Commit} (h:w_CommitS a≤1048576):∀ c ∈ c_CommitS a,smC c:=fun c hc=>by
 obtain ⟨x,hx,rfl⟩:=List.mem_map.1 hc
 have hx:=sumOf_mem (w:=w_Commit) hx
 unfold w_CommitS at h
 have hw:w_IntS x.Parents+x.Note.size+w_NameS x.Names≤1048576:=by
  have:w_Commit x=w_IntS x.Parents+x.Note.size+w_NameS x.Names:=rfl
  omega
 exact ⟨by show x.Note.size≤_; omega,smN_c (by omega)⟩
theorem wsm_c {a:T_laws_Weave} (h:w_Weave a≤1048576):WSm (c_Weave a):=by
 have hp:w_IntSS a.Parents+w_BodyS a.Bodies≤1048576:=h
 have hb:∀ b ∈ (c_Weave a).Bodies,∃ x ∈ a.Bodies,b=c_Body x:=fun b hb=>by
  have:b ∈ a.Bodies.map c_Body:=by
   have e:(c_Weave a).Bodies=a.Bodies.map c_Body:=cm_BodyS a.Bodies
   rw [← e]
   exact hb
  obtain ⟨x,h1,h2⟩:=List.mem_map.1 this
  exact ⟨x,h1,h2.symm⟩
 have hx:∀ x ∈ a.Bodies,w_Body x≤1048576:=fun x hx=>by
  have:=sumOf_mem (w:=w_Body) hx
  unfold w_BodyS at hp
  omega
 refine ⟨?_,⟨?_,fun b hm=>?_⟩,fun b hm=>?_⟩
 ·show a.Parents.length≤_
  unfold w_IntSS at hp
  omega
 ·have e:(c_Weave a).Bodies=a.Bodies.map c_Body:=cm_BodyS a.Bodies
  rw [e,List.length_map]
  unfold w_BodyS at hp
  omega
 ·obtain ⟨x,h1,rfl⟩:=hb b hm
  have:=hx x h1
  show x.Dels.length≤_
  unfold w_Body w_IntS at this
  omega
 ·obtain ⟨x,h1,rfl⟩:=hb b hm
  have:=hx x h1
  show x.Line.size≤_
  unfold w_Body at this
  omega
theorem stsm_c {a:T_laws_Store} (h:w_Store a≤1048576):StSm (c_Store a):=by
 have hp:w_CommitS a.Commits+w_WeaveS a.Files≤1048576:=h
 refine ⟨?_,?_,smC_c (a:=a.Commits) (by omega),fun w hw=>?_⟩
 ·show (a.Commits.map c_Commit).length≤_
  rw [List.length_map]
  unfold w_CommitS at hp
  omega
 ·show (a.Files.map c_Weave).length≤_
  rw [List.length_map]
  unfold w_WeaveS at hp
  omega
 ·obtain ⟨x,hx,rfl⟩:=List.mem_map.1 hw
  have:=sumOf_mem (w:=w_Weave) hx
  unfold w_WeaveS at hp
  exact wsm_c (by omega)
theorem fileLog_law {aS:T_laws_Store} {aPath:ByteArray} {aC:Int} (h0:sm_Store aS):laws_FnExactFileLog aS aPath aC=some true:=by
 unfold laws_FnExactFileLog
 by_cases q:(aPath.size:Int) > 1048576
 ·rw [ifT (decide_eq_true q)]
 rw [ifF (decide_eq_false q)]
 have hsz:laws_szStore (T_laws_Store.mk aS.Commits aS.Files) 1048576=_:=sz_Store (a:=aS) (ok_of_Store h0) (by decide) (by decide)
 rw [hsz,Option.bind_some]
 by_cases q2:(w_Store aS:Int)≤1048576
 ·rw [if_pos q2,ifF (decide_eq_false (by omega))]
  have hz:=zc_Store aS
  have hn:=nc_Store aS
  have hto:laws_toStore (T_laws_Store.mk aS.Commits aS.Files)=some (c_Store aS):=to_Store (a:=aS) (by omega)
  have hS:spec_FileLog (T_impl_Store.mk (c_Store aS).Commits (c_Store aS).Files) aPath aC=_:=fileLogS (stsm_c (a:=aS) (by omega)) aPath aC
  have hI:impl_FileLog (T_impl_Store.mk (c_Store aS).Commits (c_Store aS).Files) aPath aC=_:=fileLogI (stsm_c (a:=aS) (by omega)) aPath aC
  have heW:laws_eqStore (T_impl_Store.mk (c_Store aS).Commits (c_Store aS).Files) (T_impl_Store.mk (c_Store aS).Commits (c_Store aS).Files)=some true:=eq_Store (a:=c_Store aS) (by omega)
  have hmW:laws_markStore (T_impl_Store.mk (c_Store aS).Commits (c_Store aS).Files) 1=some ((1:Int)+(n_Store (c_Store aS):Int)):=mark_Store (a:=c_Store aS) (by omega) (by omega) (by omega)
  generalize hr:fileLogR (c_Store aS) aPath aC=r at hS hI
  have hrl:r.1.length≤64:=by rw [← hr]; exact fileLogR_len _ _ _
  have hnr:(n_IntS r.1:Int)≤64:=by unfold n_IntS; rw [sumK1]; omega
  have heR:laws_eqIntS r.1 r.1=some true:=eq_IntS (by unfold z_IntS; omega)
  have hmR:=mark_IntS (a:=r.1) (k:=1) (by omega) (by omega) (by unfold z_IntS; omega)
  have hhR:=held_IntS (a:=r.1) (k:=1) (by omega) (by omega) (by unfold z_IntS; omega)
  have d1:decide ((1:Int)+n_Store (c_Store aS) < 0)=false:=decide_eq_false (by omega)
  have d2:decide ((1:Int)+n_IntS r.1 < 0)=false:=decide_eq_false (by omega)
  simp only [hto,hS,hI,heW,hmW,heR,hmR,hhR,d1,d2,Option.bind_some,Bool.not_true,Bool.false_eq_true,if_false,bne_self_eq_false]
 ·rw [if_neg q2,ifT (decide_eq_true (by omega))]
end Go.TV.F
