/- The plain laws. -/
import Derived.Test.YtbapbpnchdpbhaaGreatKFnWovenT1
import Derived.Laws.BitsLemmas
import Derived.Test.YtbapbpnchdpbhaaGreatKFnWovenD
set_option linter.unusedVariables false
set_option linter.unusedSimpArgs false
set_option maxHeartbeats 8000000
set_option maxRecDepth 100000
namespace Go.TV.F
open Go.TV
theorem zQ {x:Int} (h1 : -9223372036854775808≤x) (h2:x < 9223372036854775808):wk .i64 x=x:=by
 simp only [wk,IntKind.wrap,IntKind.bits,IntKind.signed,Bool.true_and,decide_eq_true_eq,Nat.reduceSub,Int.reducePow]
 split
 ·rename_i h; simp at h; omega
 ·rename_i h; simp at h; omega
theorem wku64 {x:Int} (h1:0≤x) (h2:x < 18446744073709551616):wk .u64 x=x:=by
 simp only [wk,IntKind.wrap,IntKind.bits,IntKind.signed,Bool.true_and,Bool.false_and,decide_eq_true_eq,Bool.false_eq_true,if_false,Nat.reduceSub,Int.reducePow]
 first | omega | (split <;> omega)
theorem wku32 {x:Int} (h1:0≤x) (h2:x < 4294967296):wk .u32 x=x:=by
 simp only [wk,IntKind.wrap,IntKind.bits,IntKind.signed,Bool.true_and,Bool.false_and,decide_eq_true_eq,Bool.false_eq_true,if_false,Nat.reduceSub,Int.reducePow]
 first | omega | (split <;> omega)
theorem wku8 {x:Int} (h1:0≤x) (h2:x < 256):wk .u8 x=x:=by
 simp only [wk,IntKind.wrap,IntKind.bits,IntKind.signed,Bool.true_and,Bool.false_and,decide_eq_true_eq,Bool.false_eq_true,if_false,Nat.reduceSub,Int.reducePow]
 first | omega | (split <;> omega)
theorem wku32_mod (x:Int):wk .u32 x=x % 4294967296:=by
 simp only [wk,IntKind.wrap,IntKind.bits,IntKind.signed,Bool.false_and,Bool.false_eq_true,if_false,Int.reducePow]
theorem wku8_mod (x:Int):wk .u8 x=x % 256:=by
 simp only [wk,IntKind.wrap,IntKind.bits,IntKind.signed,Bool.false_and,Bool.false_eq_true,if_false,Int.reducePow]
theorem zD {α:Type} (l:List α) (k:Nat):zF l (k:Int)=l[k]?:=by
 unfold zF
 rw [if_neg (by omega),Int.toNat_natCast]
theorem zC1 {α:Type} {l:List α} {i:Int} (h1:0≤i) (h2:i < l.length):zF l i=some (l[i.toNat]'(by omega)):=by
 unfold zF
 rw [if_neg (by omega),List.getElem?_eq_getElem]
theorem qD7 {α:Type} {n:Int} {z:α} (h1:0≤n) (h2:n≤1099511627776):mkl n n z=some (List.replicate n.toNat z):=by
 unfold mkl
 rw [if_pos ⟨h1,Int.le_refl _,h2⟩]
theorem zJ {α:Type} {l m:List α} (h:l.length+m.length≤549755813888):qF l m=some (l++m):=by
 unfold qF
 rw [if_pos h]
theorem qB1 {s t:ByteArray} (h:s.size+t.size≤4611686018427387904):sapp s t=some (s++t):=by
 unfold sapp
 rw [if_pos h]
theorem chk_in {p:Prop} [Decidable p] (h:p):chk p=some ():=by
 unfold chk
 rw [if_pos h]
theorem zC8 {σ ρ:Type} {body:σ→Option (σ⊕ρ)} {r:ρ} (f:Nat→σ) (n:Nat) (hs:∀ k,k < n→body (f k)=some (.inl (f (k+1)))) (he:body (f n)=some (.inr r)):zB body (f 0)=some r:=by
 have key:∀ m k,k+m=n→zB body (f k)=some r:=by
  intro m
  induction m with
  | zero=>intro k hk; rw [Nat.add_zero] at hk; subst hk; rw [zX,he]; rfl
  | succ m ih=>intro k hk; rw [zX,hs k (by omega)]; exact ih (k+1) (by omega)
 exact key n 0 (by omega)
theorem qB6 {σ ρ:Type} {body:σ→Option (σ⊕ρ)} {good bad:ρ} (f:Nat→σ) (n:Nat) (p:Nat→Bool) (hs:∀ k,k < n→(∀ j,j < k→p j=true)→p k=true→body (f k)=some (.inl (f (k+1))))
  (hb:∀ k,k < n→(∀ j,j < k→p j=true)→p k=false→body (f k)=some (.inr bad)) (he:(∀ j,j < n→p j=true)→body (f n)=some (.inr good)):zB body (f 0)=some (if (List.range n).all p=true then good else bad):=by
 have key:∀ m k,k+m=n→(∀ j,j < k→p j=true)→zB body (f k)=some (if (List.range n).all p=true then good else bad):=by
  intro m
  induction m with
  | zero =>
   intro k hk hp
   rw [Nat.add_zero] at hk
   subst hk
   rw [zX,he hp,if_pos (by simpa using hp)]
   rfl
  | succ m ih =>
   intro k hk hp
   rw [zX]
   cases q:p k with
   | true =>
    rw [hs k (by omega) hp q]
    refine ih (k+1) (by omega) (fun j hj=>?_)
    rcases Nat.lt_succ_iff_lt_or_eq.1 hj with h | rfl
    ·exact hp j h
    ·exact q
   | false =>
    rw [hb k (by omega) hp q,if_neg]
    ·rfl
    ·intro hq
     have:=List.all_eq_true.1 hq k (List.mem_range.2 (by omega))
     rw [q] at this
     cases this
 exact key n 0 (by omega) (fun j hj=>by omega)
end Go.TV.F
namespace Go.TV.F
open Go.TV
def kQ {α:Type} (w:α→Nat):List α→Nat
 | []=>0
 | x :: l=>w x+kQ w l
theorem sumOf_mem {α:Type} {w:α→Nat} {l:List α} {x:α} (h:x ∈ l):w x≤kQ w l:=by
 induction l with
 | nil=>cases h
 | cons y l ih =>
  rcases List.mem_cons.1 h with rfl | h
  ·simp [kQ]
  ·have:=ih h
   simp [kQ]
   omega
end Go.TV.F
namespace Go.TV.F
open Go.TV
def zD5 (l:List Int) (n:Int) (i:Nat):Bool:=decide (l.getD i 0≥0) && decide (l.getD i 0≤n - 1) && (i == 0 || decide (l.getD (i - 1) 0 < l.getD i 0))
def jW (l:List Int) (n:Int):Bool:=(List.range l.length).all (zD5 l n)
def gAt (g:List (List Int)) (v:Nat):Bool:=decide ((g.getD v []).length≤4) && jW (g.getD v []) v
def gOk (g:List (List Int)):Bool:=decide (g.length≤40) && (List.range g.length).all (gAt g)
theorem jH {g:List (List Int)} (h:gOk g=true):g.length≤40:=by
 simp only [gOk,Bool.and_eq_true,decide_eq_true_eq] at h
 exact h.1
theorem zU2 {g:List (List Int)} (hg:gOk g=true) {v:Nat} (hv:v < g.length):g[v].length≤4∧jW g[v] v=true:=by
 simp only [gOk,Bool.and_eq_true] at hg
 have h1:=List.all_eq_true.1 hg.2 v (List.mem_range.2 hv)
 have:g.getD v []=g[v]:=by simp [hv]
 simp only [gAt,this,Bool.and_eq_true,decide_eq_true_eq] at h1
 exact h1
theorem wX {l:List Int} {n:Int} (h:jW l n=true) {x:Int} (hx:x ∈ l):0≤x∧x≤n - 1:=by
 obtain ⟨i,hi,rfl⟩:=List.getElem_of_mem hx
 have:=List.all_eq_true.1 h i (List.mem_range.2 hi)
 have e:l.getD i 0=l[i]:=by simp [hi]
 simp only [zD5,e,Bool.and_eq_true,decide_eq_true_eq] at this
 exact this.1
theorem zG7 {g:List (List Int)} (hg:gOk g=true) {v:Nat} (hv:v < g.length) {x:Int} (hx:x ∈ g[v]):0≤x∧x < v:=by
 have:=wX (zU2 hg hv).2 hx
 omega
def orL (c:List Nat) (l:List Int):Nat:=l.foldl (fun (s:Nat) (x:Int)=>s ||| c.getD x.toNat 0) 0
theorem orL_snoc (c:List Nat) (l:List Int) (x:Int):orL c (l++[x])=orL c l ||| c.getD x.toNat 0:=by
 unfold orL
 rw [List.foldl_append]
 rfl
theorem orL_take {c:List Nat} {l:List Int} {i:Nat} (hi:i < l.length):orL c (l.take (i+1))=orL c (l.take i) ||| c.getD l[i].toNat 0:=by
 rw [List.take_succ_eq_append_getElem hi,orL_snoc]
theorem getD_lt {c:List Nat} (hc:∀ x ∈ c,x < 2 ^ 64) (i:Nat):c.getD i 0 < 2 ^ 64:=by
 rw [List.getD_eq_getElem?_getD]
 rcases q:c[i]? with _ | x
 ·decide
 ·exact hc x (List.mem_of_getElem? q)
theorem orL_lt {c:List Nat} (hc:∀ x ∈ c,x < 2 ^ 64) (l:List Int):orL c l < 2 ^ 64:=by
 unfold orL
 suffices h:∀ (l:List Int) (s:Nat),s < 2 ^ 64→l.foldl (fun (s:Nat) (x:Int)=>s ||| c.getD x.toNat 0) s < 2 ^ 64 from h l 0 (by decide)
 intro l
 induction l with
 | nil=>intro s hs; exact hs
 | cons x l ih=>intro s hs; exact ih _ (Nat.or_lt_two_pow hs (getD_lt hc _))
theorem qJ6 (c:List Nat) (l:List Int) (u:Nat):(orL c l).testBit u=l.any fun x=>(c.getD x.toNat 0).testBit u:=by
 unfold orL
 suffices h:∀ (l:List Int) (s:Nat),(l.foldl (fun (s:Nat) (x:Int)=>s ||| c.getD x.toNat 0) s).testBit u=(s.testBit u || l.any fun x=>(c.getD x.toNat 0).testBit u) by
  rw [h]; simp
 intro l
 induction l with
 | nil=>intro s; simp
 | cons x l ih=>intro s; rw [List.foldl_cons,ih,Nat.testBit_or,List.any_cons,Bool.or_assoc]
theorem wrapu {n:Int} (h0:0≤n) (h1:n < 2 ^ 64):IntKind.wrap .u64 n=n:=wku64 h0 (by omega)
theorem or_u64 {a b:Nat} (ha:a < 2 ^ 64) (hb:b < 2 ^ 64):bits .or .u64 a b=((a ||| b:Nat):Int):=(bits_nat .u64 64 (by decide) (fun n h0 h1=>wrapu h0 h1) a b ha hb).2
theorem and_u64 {a b:Nat} (ha:a < 2 ^ 64) (hb:b < 2 ^ 64):bits .and .u64 a b=((a &&& b:Nat):Int):=(bits_nat .u64 64 (by decide) (fun n h0 h1=>wrapu h0 h1) a b ha hb).1
theorem shl_one {n:Nat} (hn:n < 64):shlI .u64 1 (n:Int)=((2 ^ n:Nat):Int):=by
 have h:(2 ^ n:Nat) < 2 ^ 64:=Nat.pow_lt_pow_right (by decide) hn
 unfold shlI
 rw [Int.toNat_natCast,show min n IntKind.u64.bits=n by simp [IntKind.bits]; omega,Int.one_mul]
 have e:((2:Int) ^ n)=((2 ^ n:Nat):Int):=by simp
 rw [e]
 exact wku64 (Int.natCast_nonneg _) (Int.ofNat_lt.2 (show 2 ^ n < 18446744073709551616 from h))
theorem shr_test (s n:Nat) (hs:s < 2 ^ 64) (hn:n < 64):((bits .and .u64 (vO .u64 (s:Int) (n:Int)) 1) == 1)=s.testBit n:=by
 have e1:vO .u64 (s:Int) (n:Int)=((s / 2 ^ n:Nat):Int):=by
  unfold vO
  rw [Int.toNat_natCast,show min n IntKind.u64.bits=n by simp [IntKind.bits]; omega]
  simp
 have e2:=and_u64 (a:=s / 2 ^ n) (b:=1) (Nat.lt_of_le_of_lt (Nat.div_le_self _ _) hs) (by decide)
 rw [e1,show ((1:Int))=((1:Nat):Int) from rfl,e2,Nat.testBit_eq_decide_div_mod_eq,Nat.and_one_is_mod]
 rcases Nat.mod_two_eq_zero_or_one (s / 2 ^ n) with q | q <;> rw [q] <;> rfl
def kS (l:List Nat):List Int:=l.map fun (n:Nat)=>(n:Int)
def qL (g:List (List Int)):Nat→List Nat
 | 0=>List.replicate g.length 0
 | n+1=>(qL g n).set n (orL (qL g n) (g.getD n []) ||| 2 ^ n)
theorem zU4 (g:List (List Int)):∀ n,(qL g n).length=g.length
 | 0=>by simp [qL]
 | n+1=>by rw [qL,List.length_set,zU4]
theorem qK6 {g:List (List Int)} (hg:g.length≤40):∀ n,n≤g.length→∀ x ∈ qL g n,x < 2 ^ 64
 | 0,_,x,hx=>by
  have:=List.eq_of_mem_replicate hx
  subst this
  decide
 | n+1,hn,x,hx=>by
  rcases List.mem_or_eq_of_mem_set hx with q | q
  ·exact qK6 hg n (by omega) x q
  ·rw [q]
   exact Nat.or_lt_two_pow (orL_lt (qK6 hg n (by omega)) _) (Nat.pow_lt_pow_right (by decide) (by omega))
theorem closN_old (g:List (List Int)):∀ (n k i:Nat),i < n→(qL g (n+k)).getD i 0=(qL g n).getD i 0
 | _,0,_,_=>rfl
 | n,k+1,i,hi=>by
  rw [← Nat.add_assoc,qL,List.getD_eq_getElem?_getD,List.getElem?_set_ne (by omega),← List.getD_eq_getElem?_getD]
  exact closN_old g n k i hi
def clo (g:List (List Int)) (v:Nat):Nat:=(qL g g.length).getD v 0
theorem closN_clo {g:List (List Int)} {n i:Nat} (hn:n≤g.length) (hi:i < n):(qL g n).getD i 0=clo g i:=by
 have:=closN_old g n (g.length - n) i hi
 rw [show n+(g.length - n)=g.length by omega] at this
 exact this.symm
theorem clo_lt {g:List (List Int)} (hg:gOk g=true) (v:Nat):clo g v < 2 ^ 64:=getD_lt (qK6 (jH hg) _ (Nat.le_refl _)) v
theorem zZ2 {g:List (List Int)} (hg:gOk g=true) {v:Nat} (hv:v < g.length) (u:Nat):(clo g v).testBit u=(decide (u=v) || g[v].any fun p=>(clo g p.toNat).testBit u):=by
 have e:g.getD v []=g[v]:=by simp [hv]
 have h1:clo g v=orL (qL g v) g[v] ||| 2 ^ v:=by
  rw [← closN_clo (n:=v+1) (by omega) (by omega),qL,List.getD_eq_getElem?_getD,List.getElem?_set_self (by rw [zU4]; omega),e]
  rfl
 have h2:(orL (qL g v) g[v]).testBit u=g[v].any fun p=>(clo g p.toNat).testBit u:=by
  rw [qJ6,Bool.eq_iff_iff,List.any_eq_true,List.any_eq_true]
  constructor
  ·rintro ⟨x,hx,h⟩
   have:=zG7 hg hv hx
   exact ⟨x,hx,by rw [← closN_clo (n:=v) (by omega) (by omega)]; exact h⟩
  ·rintro ⟨x,hx,h⟩
   have:=zG7 hg hv hx
   exact ⟨x,hx,by rw [closN_clo (by omega) (by omega)]; exact h⟩
 rw [h1,Nat.testBit_or,h2,Nat.testBit_two_pow,Bool.or_comm]
 congr 1
 simp only [decide_eq_decide]
 omega
theorem clo_self {g:List (List Int)} (hg:gOk g=true) {v:Nat} (hv:v < g.length):(clo g v).testBit v=true:=by
 rw [zZ2 hg hv]
 simp
theorem clo_le {g:List (List Int)} (hg:gOk g=true):∀ {v:Nat},v < g.length→∀ {u:Nat},(clo g v).testBit u=true→u≤v:=by
 intro v
 induction v using Nat.strongRecOn with
 | _ v ih =>
  intro hv u h
  rw [zZ2 hg hv] at h
  simp only [Bool.or_eq_true,decide_eq_true_eq,List.any_eq_true] at h
  rcases h with h | ⟨p,hp,h⟩
  ·omega
  ·have:=zG7 hg hv hp
   have:=ih p.toNat (by omega) (by omega) h
   omega
def mark (b:List Bool) (l:List Int):List Bool:=l.foldl (fun (b:List Bool) (x:Int)=>if 0≤x∧x < b.length then b.set x.toNat true else b) b
def step (g:List (List Int)) (b:List Bool) (v:Nat):List Bool:=if b.getD v false=true then mark b (g.getD v []) else b
def down (g:List (List Int)):Nat→List Bool→List Bool
 | 0,b=>b
 | n+1,b=>down g n (step g b n)
def uZ (g:List (List Int)) (l:List Int):List Bool:=down g g.length (mark (List.replicate g.length false) l)
theorem mark_snoc (b:List Bool) (l:List Int) (x:Int):mark b (l++[x])=if 0≤x∧x < (mark b l).length then (mark b l).set x.toNat true else mark b l:=by
 unfold mark
 rw [List.foldl_append]
 rfl
theorem zP9 (b:List Bool) (l:List Int):(mark b l).length=b.length:=by
 unfold mark
 induction l generalizing b with
 | nil=>rfl
 | cons x l ih =>
  rw [List.foldl_cons,ih]
  split <;> simp
theorem mark_take {b:List Bool} {l:List Int} {i:Nat} (hi:i < l.length):mark b (l.take (i+1))=if 0≤l[i]∧l[i] < b.length then (mark b (l.take i)).set l[i].toNat true else mark b (l.take i):=by
 rw [List.take_succ_eq_append_getElem hi,mark_snoc,zP9]
theorem zV2 (b:List Bool) (l:List Int) (u:Nat):(mark b l).getD u false=(b.getD u false || (decide (u < b.length) && l.any fun x=>x == (u:Int))):=by
 unfold mark
 induction l generalizing b with
 | nil=>simp
 | cons x l ih =>
  rw [List.foldl_cons,ih,List.any_cons]
  split
  ·rename_i hx
   simp only [List.length_set,List.getD_eq_getElem?_getD,List.getElem?_set]
   by_cases e:x.toNat=u
   ·have e':(x == (u:Int))=true:=by simp; omega
    rw [if_pos e,if_pos (by omega),e']
    simp
    right
    omega
   ·have e':(x == (u:Int))=false:=by simp; omega
    rw [if_neg e,e',Bool.false_or]
  ·rename_i hx
   by_cases e:x=(u:Int)
   ·have:¬u < b.length:=by omega
    simp [this]
   ·have e':(x == (u:Int))=false:=by simp; exact e
    rw [e',Bool.false_or]
theorem down_len (g:List (List Int)):∀ (n:Nat) (b:List Bool),(down g n b).length=b.length
 | 0,_=>rfl
 | n+1,b=>by
  rw [down,down_len,step]
  split
  ·exact zP9 _ _
  ·rfl
theorem setL_len (g:List (List Int)) (l:List Int):(uZ g l).length=g.length:=by rw [uZ,down_len,zP9]; simp
theorem down_get {g:List (List Int)} (hg:gOk g=true):∀ (m:Nat) (b:List Bool),m≤g.length→b.length=g.length→∀ u,(down g m b).getD u false=true↔∃ w,b.getD w false=true∧((w < m∧(clo g w).testBit u=true)∨u=w)
 | 0,b,_,_,u=>by
  rw [down]
  exact ⟨fun h=>⟨u,h,.inr rfl⟩,fun ⟨w,h1,h2⟩=>by
   rcases h2 with ⟨h2,_⟩ | h2
   ·omega
   ·rw [h2]; exact h1⟩
 | m+1,b,hm,hb,u=>by
  have hl:(step g b m).length=g.length:=by
   rw [step]
   split
   ·rw [zP9]; exact hb
   ·exact hb
  rw [down,down_get hg m _ (by omega) hl u]
  have e:g.getD m []=g[m]:=by simp [show m < g.length by omega]
  by_cases q:b.getD m false=true
  ·rw [step,if_pos q,e]
   constructor
   ·rintro ⟨w,h1,h2⟩
    rw [zV2] at h1
    simp only [Bool.or_eq_true,Bool.and_eq_true,decide_eq_true_eq,List.any_eq_true] at h1
    rcases h1 with h1 | ⟨_,x,hx,h1⟩
    ·refine ⟨w,h1,?_⟩
     rcases h2 with ⟨h2,h3⟩ | h2
     ·exact .inl ⟨by omega,h3⟩
     ·exact .inr h2
    ·have hx':=zG7 hg (v:=m) (by omega) hx
     have h1:x=(w:Int):=by simpa using h1
     subst h1
     refine ⟨m,q,.inl ⟨by omega,?_⟩⟩
     rw [zZ2 hg (by omega)]
     simp only [Bool.or_eq_true,List.any_eq_true]
     refine .inr ⟨(w:Int),hx,?_⟩
     rw [Int.toNat_natCast]
     rcases h2 with ⟨_,h2⟩ | h2
     ·exact h2
     ·rw [h2]
      exact clo_self hg (by omega)
   ·rintro ⟨w,h1,h2⟩
    by_cases hw:w=m
    ·subst hw
     rcases h2 with ⟨_,h2⟩ | h2
     ·rw [zZ2 hg (by omega)] at h2
      simp only [Bool.or_eq_true,decide_eq_true_eq,List.any_eq_true] at h2
      rcases h2 with h2 | ⟨p,hp,h2⟩
      ·exact ⟨w,by rw [zV2,h1]; rfl,.inr h2⟩
      ·have hp':=zG7 hg (v:=w) (by omega) hp
       refine ⟨p.toNat,?_,.inl ⟨by omega,h2⟩⟩
       rw [zV2]
       simp only [Bool.or_eq_true,Bool.and_eq_true,decide_eq_true_eq,List.any_eq_true]
       exact .inr ⟨by omega,p,hp,by simp; omega⟩
     ·exact ⟨w,by rw [zV2,h1]; rfl,.inr h2⟩
    ·refine ⟨w,by rw [zV2,h1]; rfl,?_⟩
     rcases h2 with ⟨h2,h3⟩ | h2
     ·exact .inl ⟨by omega,h3⟩
     ·exact .inr h2
  ·rw [step,if_neg q]
   constructor
   ·rintro ⟨w,h1,h2⟩
    refine ⟨w,h1,?_⟩
    rcases h2 with ⟨h2,h3⟩ | h2
    ·exact .inl ⟨by omega,h3⟩
    ·exact .inr h2
   ·rintro ⟨w,h1,h2⟩
    have hw:w≠m:=fun e=>q (e ▸ h1)
    refine ⟨w,h1,?_⟩
    rcases h2 with ⟨h2,h3⟩ | h2
    ·exact .inl ⟨by omega,h3⟩
    ·exact .inr h2
theorem setL_get {g:List (List Int)} (hg:gOk g=true) (l:List Int) (u:Nat):(uZ g l).getD u false=true↔∃ x ∈ l,0≤x∧x < g.length∧(clo g x.toNat).testBit u=true:=by
 rw [uZ,down_get hg _ _ (Nat.le_refl _) (by rw [zP9]; simp)]
 constructor
 ·rintro ⟨w,h1,h2⟩
  rw [zV2] at h1
  simp only [List.length_replicate,Bool.or_eq_true,Bool.and_eq_true,decide_eq_true_eq,List.any_eq_true] at h1
  rcases h1 with h1 | ⟨h0,x,hx,h1⟩
  ·rw [List.getD_eq_getElem?_getD,List.getElem?_replicate] at h1
   split at h1 <;> cases h1
  ·have h1:x=(w:Int):=by simpa using h1
   subst h1
   refine ⟨(w:Int),hx,by omega,by omega,?_⟩
   rw [Int.toNat_natCast]
   rcases h2 with ⟨_,h2⟩ | h2
   ·exact h2
   ·rw [h2]; exact clo_self hg h0
 ·rintro ⟨x,hx,h0,h1,h2⟩
  refine ⟨x.toNat,?_,.inl ⟨by omega,h2⟩⟩
  rw [zV2]
  simp only [List.length_replicate,Bool.or_eq_true,Bool.and_eq_true,decide_eq_true_eq,List.any_eq_true]
  exact .inr ⟨by omega,x,hx,by simp; omega⟩
end Go.TV.F
namespace Go.TV.F
open Go.TV
theorem loopK1 {σ ρ:Type} {f:σ→Option (σ⊕ρ)} (I:σ→Prop) (m:σ→Nat) (Q:ρ→Prop) {s:σ} (h0:I s)
  (h:∀ s,I s→(∃ s',f s=some (.inl s')∧I s'∧m s' < m s)∨∃ r,f s=some (.inr r)∧Q r):∃ r,zB f s=some r∧Q r:=by
 have key:∀ n s,I s→m s=n→∃ r,zB f s=some r∧Q r:=by
  intro n
  induction n using Nat.strongRecOn with
  | _ n ih =>
   intro s hs hm
   rw [zX f]
   rcases h s hs with ⟨s',h1,h2,h3⟩ | ⟨r,h1,h2⟩
   ·rw [h1]
    exact ih (m s') (by omega) s' h2 rfl
   ·rw [h1]
    exact ⟨r,rfl,h2⟩
 exact key _ s h0 rfl
theorem tdivK (a b:Nat):((a:Int)).tdiv (b:Int)=((a / b:Nat):Int):=by
 rw [Int.tdiv_eq_ediv_of_nonneg (by omega)]
 rfl
theorem sumOf_leK {α:Type} {w:α→Nat} {B:Nat}:∀ {a:List α},(∀ x ∈ a,w x≤B)→kQ w a≤a.length * B
 | [],_=>by simp [kQ]
 | x :: l,h=>by
  have h1:=h x (by simp)
  have h2:=sumOf_leK (a:=l) (fun y hy=>h y (by simp [hy]))
  simp only [kQ,List.length_cons,Nat.add_mul]
  omega
end Go.TV.F
namespace Go.TV.F
open Go.TV
theorem qI8 (n a b:Int):wZ n a b=some (decide (a≤n) && decide (n≤b)):=by
 unfold wZ
 by_cases h:a≤n <;> simp [h]
theorem qF7 (n a b:Int):zD2 n a b=some (decide (a≤n) && decide (n≤b)):=by
 unfold zD2
 by_cases h:a≤n <;> simp [h]
theorem qQ6 {n m:Int} (h0:0≤m) (h1:m≤1000000000):zH7 n m=some (decide (0≤n) && decide (n < m)):=by
 unfold zH7
 rw [zQ (by omega) (by omega),qI8]
 have:decide (n≤m - 1)=decide (n < m):=by simp only [decide_eq_decide]; omega
 rw [this]
 rfl
theorem riseAt_nat {l:List Int} {n:Int} {i:Nat} (hi:i < l.length):zD5 l n i=(decide (0≤l[i]) && decide (l[i]≤n - 1) && (i == 0 || decide (l.getD (i - 1) 0 < l[i]))):=by
 have e:l.getD i 0=l[i]:=by simp [hi]
 simp only [zD5,e]
theorem ascends_eq {l:List Int} {n:Int} (hl:l.length≤1000000000) (hn:0≤n) (hn2:n≤1000000000):zN7 l n=some (jW l n):=by
 unfold zN7
 have hb:∀ k:Nat,k < l.length→kH l n k=some (if zD5 l n k=true then .inl ((k+1:Nat):Int) else .inr (.inl false)):=by
  intro k hk
  unfold kH
  rw [ifT (by simpa using hk),zD,List.getElem?_eq_getElem hk,Option.bind_some,zQ (x:=n - 1) (by omega) (by omega),qI8,Option.bind_some,riseAt_nat hk]
  cases h1:(decide (0≤l[k]) && decide (l[k]≤n - 1)) with
  | false=>simp
  | true =>
   rcases Nat.eq_zero_or_pos k with rfl | hp
   ·simp [zQ]
   ·obtain ⟨j,rfl⟩:∃ j,k=j+1:=⟨k - 1,by omega⟩
    rw [zQ (x:=((j+1:Nat):Int) - 1) (by omega) (by omega),show ((j+1:Nat):Int) - 1=(j:Int) by omega,zD,List.getElem?_eq_getElem (by omega)]
    rw [zQ (by omega) (by omega)]
    have e:l.getD (j+1 - 1) 0=l[j]:=by simp [show j < l.length by omega]
    rw [e]
    by_cases q:l[j] < l[j+1]
    ·simp [q,show ¬l[j+1]≤l[j] by omega]
    ·simp [q,show l[j+1]≤l[j] by omega]
 have:=qB6 (body:=fun s'=>kH l n s') (good:=.inr ()) (bad:=.inl false) (fun k=>(k:Int)) l.length (zD5 l n) (fun k hk _ hp=>by show kH l n k=_; rw [hb k hk,if_pos hp]) (fun k hk _ hp=>by show kH l n k=_; rw [hb k hk,hp]; rfl) (fun _=>by
  show kH l n l.length=_
  unfold kH
  rw [ifF (by simp)])
 rw [show (0:Int)=((0:Nat):Int) from rfl,this,Option.bind_some]
 unfold jW
 cases (List.range l.length).all (zD5 l n) <;> rfl
theorem qO2 {l:List Int} {n:Int} (hl:l.length≤1000000000) (hn:0≤n) (hn2:n≤1000000000):zH6 l n=some (jW l n):=by
 unfold zH6
 have hb:∀ k:Nat,k < l.length→kI l n k=some (if zD5 l n k=true then .inl ((k+1:Nat):Int) else .inr (.inl false)):=by
  intro k hk
  unfold kI
  rw [ifT (by simpa using hk),zD,List.getElem?_eq_getElem hk,Option.bind_some,zQ (x:=n - 1) (by omega) (by omega),qF7,Option.bind_some,riseAt_nat hk]
  cases h1:(decide (0≤l[k]) && decide (l[k]≤n - 1)) with
  | false=>simp
  | true =>
   rcases Nat.eq_zero_or_pos k with rfl | hp
   ·simp [zQ]
   ·obtain ⟨j,rfl⟩:∃ j,k=j+1:=⟨k - 1,by omega⟩
    rw [zQ (x:=((j+1:Nat):Int) - 1) (by omega) (by omega),show ((j+1:Nat):Int) - 1=(j:Int) by omega,zD,List.getElem?_eq_getElem (by omega)]
    rw [zQ (by omega) (by omega)]
    have e:l.getD (j+1 - 1) 0=l[j]:=by simp [show j < l.length by omega]
    rw [e]
    by_cases q:l[j] < l[j+1]
    ·simp [q,show ¬l[j+1]≤l[j] by omega]
    ·simp [q,show l[j+1]≤l[j] by omega]
 have:=qB6 (body:=fun s'=>kI l n s') (good:=.inr ()) (bad:=.inl false) (fun k=>(k:Int)) l.length (zD5 l n) (fun k hk _ hp=>by show kI l n k=_; rw [hb k hk,if_pos hp]) (fun k hk _ hp=>by show kI l n k=_; rw [hb k hk,hp]; rfl) (fun _=>by
  show kI l n l.length=_
  unfold kI
  rw [ifF (by simp)])
 rw [show (0:Int)=((0:Nat):Int) from rfl,this,Option.bind_some]
 unfold jW
 cases (List.range l.length).all (zD5 l n) <;> rfl
theorem gAt_nat {g:List (List Int)} {v:Nat} (hv:v < g.length):gAt g v=(decide (g[v].length≤4) && jW g[v] v):=by
 have:g.getD v []=g[v]:=by simp [hv]
 unfold gAt
 rw [this]
theorem graphOkI_eq {g:List (List Int)} (hl:g.length≤10000000):zO9 g=some (gOk g):=by
 unfold zO9
 have hb:∀ k:Nat,k < g.length→kF g k=some (if gAt g k=true then .inl ((k+1:Nat):Int) else .inr (.inl false)):=by
  intro k hk
  unfold kF
  rw [ifT (by simpa using hk),zD,List.getElem?_eq_getElem hk,Option.bind_some,gAt_nat hk]
  by_cases h4:g[k].length≤4
  ·rw [ascends_eq (by omega) (by omega) (by omega),zQ (by omega) (by omega)]
   cases q:jW g[k] k <;> simp [h4,show ¬(4:Int) < (g[k].length:Int) by omega]
  ·simp [h4,show (4:Int) < (g[k].length:Int) by omega]
 have:=qB6 (body:=fun s'=>kF g s') (good:=.inr ()) (bad:=.inl false) (fun k=>(k:Int)) g.length (gAt g) (fun k hk _ hp=>by show kF g k=_; rw [hb k hk,if_pos hp]) (fun k hk _ hp=>by show kF g k=_; rw [hb k hk,hp]; rfl) (fun _=>by
  show kF g g.length=_
  unfold kF
  rw [ifF (by simp)])
 rw [show (0:Int)=((0:Nat):Int) from rfl,this,Option.bind_some]
 unfold gOk
 cases (List.range g.length).all (gAt g)
 ·simp
 ·simp [zS4,show (g.length:Int)≤40↔g.length≤40 by omega]
theorem graphOkS_eq {g:List (List Int)} (hl:g.length≤10000000):zT9 g=some (gOk g):=by
 unfold zT9
 by_cases h40:g.length≤40
 ·rw [ifF (by simp; omega)]
  have hb:∀ k:Nat,k < g.length→kJ g k=some (if gAt g k=true then .inl ((k+1:Nat):Int) else .inr (.inl false)):=by
   intro k hk
   unfold kJ
   rw [ifT (by simpa using hk),zD,List.getElem?_eq_getElem hk,Option.bind_some,gAt_nat hk]
   by_cases h4:g[k].length≤4
   ·rw [qO2 (by omega) (by omega) (by omega),zQ (by omega) (by omega)]
    cases q:jW g[k] k <;> simp [h4,show ¬(4:Int) < (g[k].length:Int) by omega]
   ·simp [h4,show (4:Int) < (g[k].length:Int) by omega]
  have:=qB6 (body:=fun s'=>kJ g s') (good:=.inr ()) (bad:=.inl false) (fun k=>(k:Int)) g.length (gAt g) (fun k hk _ hp=>by show kJ g k=_; rw [hb k hk,if_pos hp]) (fun k hk _ hp=>by show kJ g k=_; rw [hb k hk,hp]; rfl) (fun _=>by
   show kJ g g.length=_
   unfold kJ
   rw [ifF (by simp)])
  rw [show (0:Int)=((0:Nat):Int) from rfl,this,Option.bind_some]
  unfold gOk
  cases (List.range g.length).all (gAt g) <;> simp [h40,zT7]
 ·rw [ifT (by simp; omega)]
  simp [gOk,h40]
abbrev us (c:List Nat):List Int:=c.map fun (s:Nat)=>(s:Int)
theorem unionOf_eq {c:List Nat} {l:List Int} (hc:∀ x ∈ c,x < 2 ^ 64) (hl:∀ x ∈ l,0≤x∧x < (c.length:Int)) (hll:l.length≤1000000000):zO3 (us c) l=some ((orL c l:Nat):Int):=by
 unfold zO3
 have:=zC8 (body:=fun (s':Int×Int)=>yP (us c) l s'.1 s'.2) (r:=((orL c l:Nat):Int)) (fun k=>(((orL c (l.take k):Nat):Int),(k:Int))) l.length (fun k hk=>by
  show yP (us c) l ((orL c (l.take k):Nat):Int) k=_
  unfold yP
  have hk2:=hl _ (List.getElem_mem hk)
  have e:c.getD l[k].toNat 0=c[l[k].toNat]'(by omega):=by simp [show l[k].toNat < c.length by omega]
  rw [ifT (by simpa using hk),zD,List.getElem?_eq_getElem hk,Option.bind_some,zC1 hk2.1 (by simp; omega),Option.bind_some,zQ (by omega) (by omega),List.getElem_map,
   or_u64 (orL_lt hc _) (hc _ (List.getElem_mem _)),orL_take hk,e]
  rfl) (by
  show yP (us c) l ((orL c (l.take l.length):Nat):Int) l.length=_
  unfold yP
  rw [ifF (by simp),List.take_length])
 have e0:((0:Int),(0:Int))=(((orL c (l.take 0):Nat):Int),((0:Nat):Int)):=rfl
 rw [e0,this]
 rfl
theorem qN1 {g:List (List Int)} (hg:gOk g=true):zJ2 g=some (us (qL g g.length)):=by
 have h40:=jH hg
 unfold zJ2
 rw [qD7 (by omega) (by omega),Option.bind_some,Int.toNat_natCast]
 have:=zC8 (body:=fun (s':Int×(List Int))=>wV g s'.1 s'.2) (r:=us (qL g g.length)) (fun k=>((k:Int),us (qL g k))) g.length (fun k hk=>by
  show wV g k (us (qL g k))=_
  unfold wV
  have hlt:=qK6 h40 k (by omega)
  have hm:∀ x ∈ g[k],0≤x∧x < ((qL g k).length:Int):=fun x hx=>by
   have:=zG7 hg hk hx
   rw [zU4]
   omega
  have e:g.getD k []=g[k]:=by simp [hk]
  rw [ifT (by simpa using hk),zD,List.getElem?_eq_getElem hk,Option.bind_some,unionOf_eq hlt hm (by have:=(zU2 hg hk).1; omega),Option.bind_some,wku64 (by omega) (by omega),chk_in (by omega),Option.bind_some,
   zC1 (by omega) (by simp [zU4]; omega),Option.bind_some,shl_one (by omega),or_u64 (orL_lt hlt _) (Nat.pow_lt_pow_right (by decide) (by omega)),zQ (by omega) (by omega),Int.toNat_natCast,qL,e]
  simp [us,List.map_set]) (by
  show wV g g.length (us (qL g g.length))=_
  unfold wV
  rw [ifF (by simp)])
 have e0:((0:Int),List.replicate g.length (0:Int))=(((0:Nat):Int),us (qL g 0)):=by simp [us,qL]
 rw [e0,this]
 rfl
theorem setHas_eq {s:Nat} {v:Int} (hs:s < 2 ^ 64):zO2 (s:Int) v=some (decide (0≤v) && decide (v≤63) && s.testBit v.toNat):=by
 unfold zO2
 rw [qI8,Option.bind_some]
 cases h:(decide (0≤v) && decide (v≤63)) with
 | false=>rfl
 | true =>
  have h':0≤v∧v≤63:=by simpa using h
  obtain ⟨n,rfl⟩:∃ n:Nat,v=n:=⟨v.toNat,by omega⟩
  rw [if_pos rfl,wku64 (by omega) (by omega),chk_in (by omega),Option.bind_some,shr_test s n hs (by omega),Int.toNat_natCast]
  rfl
theorem qO3 (l:List Nat):(kS l).length=l.length:=by simp [kS]
theorem mark_keep {b:List Bool} {l:List Int} {v:Nat} (h:b.getD v false=true):(mark b l).getD v false=true:=by rw [zV2,h]; rfl
theorem qA9 {g:List (List Int)} {l:List Int} (hg:gOk g=true) (hl:l.length≤1000000000):zD1 g l=some (uZ g l):=by
 have h40:=jH hg
 unfold zD1
 rw [qD7 (by omega) (by omega),Option.bind_some,Int.toNat_natCast]
 have h1:=zC8 (body:=fun (s':Int×(List Bool))=>uI g l s'.1 s'.2) (r:=mark (List.replicate g.length false) l) (fun k=>((k:Int),mark (List.replicate g.length false) (l.take k))) l.length (fun k hk=>by
  show uI g l k (mark (List.replicate g.length false) (l.take k))=_
  unfold uI
  rw [ifT (by simpa using hk),zD,List.getElem?_eq_getElem hk,Option.bind_some,zQ (x:=(g.length:Int) - 1) (by omega) (by omega),qF7,Option.bind_some,zQ (by omega) (by omega),mark_take hk,List.length_replicate]
  by_cases h:0≤l[k]∧l[k] < (g.length:Int)
  ·rw [if_pos h,ifT (by simp; omega),zC1 h.1 (by rw [zP9]; simp; omega)]
   rfl
  ·rw [if_neg h,ifF (by simp; omega)]
   rfl) (by
  show uI g l l.length (mark (List.replicate g.length false) (l.take l.length))=_
  unfold uI
  rw [ifF (by simp),List.take_length])
 have e0:((0:Int),List.replicate g.length false)=(((0:Nat):Int),mark (List.replicate g.length false) (l.take 0)):=rfl
 rw [e0,h1,Option.bind_some]
 unfold zW9
 have hlen0:(mark (List.replicate g.length false) l).length=g.length:=by rw [zP9]; simp
 -- the states of the second loop
 let B:Nat→List Bool:=fun k=>Nat.rec (mark (List.replicate g.length false) l) (fun k b=>step g b (g.length - 1 - k)) k
 have B0:B 0=mark (List.replicate g.length false) l:=rfl
 have BS:∀ k,B (k+1)=step g (B k) (g.length - 1 - k):=fun k=>rfl
 have Blen:∀ k,(B k).length=g.length:=by
  intro k
  induction k with
  | zero=>exact hlen0
  | succ k ih =>
   rw [BS,step]
   split
   ·rw [zP9]; exact ih
   ·exact ih
 have Bd:∀ m k,k+m=g.length→down g m (B k)=down g 0 (B g.length):=by
  intro m
  induction m with
  | zero=>intro k hk; rw [Nat.add_zero] at hk; subst hk; rfl
  | succ m ih =>
   intro k hk
   have:=ih (k+1) (by omega)
   rw [BS,show g.length - 1 - k=m by omega] at this
   exact this
 have h2:=zC8 (body:=fun (s':Int×(List Bool))=>uK g s'.1 s'.2) (r:=B g.length) (fun k=>((g.length:Int) - 1 - k,B k)) g.length (fun k hk=>by
  show uK g ((g.length:Int) - 1 - k) (B k)=_
  unfold uK
  obtain ⟨v,hv⟩:∃ v,g.length - 1 - k=v:=⟨_,rfl⟩
  have ev:(g.length:Int) - 1 - k=(v:Int):=by omega
  have hvl:v < g.length:=by omega
  have Bl:=Blen k
  rw [ev,ifT (by simp)]
  have egv:g.getD v []=g[v]:=by simp [hvl]
  have h3:=zC8 (body:=fun (s':Int×(List Bool))=>uH g v s'.1 s'.2) (r:=step g (B k) v) (fun j=>((j:Int),mark (B k) (g[v].take j))) (if (B k).getD v false=true then g[v].length else 0) (fun j hj=>by
   show uH g v j (mark (B k) (g[v].take j))=_
   unfold uH
   split at hj
   case isFalse=>omega
   rename_i hb
   have hmem:=zG7 hg hvl (List.getElem_mem hj)
   have hml:(mark (B k) (g[v].take j)).length=g.length:=by rw [zP9]; exact Bl
   have hkeep:(mark (B k) (g[v].take j))[v]? = some true:=by
    have:=mark_keep (l:=g[v].take j) hb
    rw [List.getD_eq_getElem?_getD] at this
    rw [List.getElem?_eq_getElem (by omega)] at this ⊢
    simpa using this
   rw [zD,List.getElem?_eq_getElem hvl,Option.bind_some,ifT (by simpa using hj),zD,hkeep]
   simp only [Option.bind_some]
   rw [if_pos trivial,zD,List.getElem?_eq_getElem hj,Option.bind_some,zC1 hmem.1 (by omega),Option.bind_some,zQ (by have:=(zU2 hg hvl).1; omega) (by have:=(zU2 hg hvl).1; omega),mark_take hj,if_pos (by omega)]
   rfl) (by
   show uH g v ((if (B k).getD v false=true then g[v].length else 0:Nat):Int) (mark (B k) (g[v].take (if (B k).getD v false=true then g[v].length else 0)))=_
   unfold uH step
   rw [zD,List.getElem?_eq_getElem hvl,Option.bind_some]
   split
   ·rename_i hb
    rw [List.take_length,ifF (by simp),egv]
    simp
   ·rename_i hb
    have hf:(B k)[v]? = some false:=by
     rw [List.getD_eq_getElem?_getD,List.getElem?_eq_getElem (by omega)] at hb
     rw [List.getElem?_eq_getElem (by omega)]
     simpa using hb
    rw [List.take_zero,show mark (B k) []=B k from rfl,zD,hf]
    by_cases q:(((0:Nat):Int) < (g[v].length:Int)) <;> simp [q])
  have e2:((0:Int),B k)=(((0:Nat):Int),mark (B k) (g[v].take 0)):=rfl
  rw [e2,h3,Option.bind_some]
  unfold zW3
  rw [zQ (by omega) (by omega),BS,hv,show ((v:Int) - 1)=(g.length:Int) - 1 - ((k+1:Nat):Int) by omega]) (by
  show uK g ((g.length:Int) - 1 - g.length) (B g.length)=_
  unfold uK
  rw [ifF (by simp; omega)])
 have e3:(wk .i64 ((g.length:Int) - 1),mark (List.replicate g.length false) l)=((g.length:Int) - 1 - ((0:Nat):Int),B 0):=by rw [zQ (by omega) (by omega),B0]; simp
 rw [e3,h2,Option.bind_some]
 unfold zW5 uZ
 have:=Bd g.length 0 (by omega)
 rw [B0] at this
 rw [this]
 rfl
end Go.TV.F
namespace Go.TV.F
open Go.TV
theorem wkS (k:Nat) (h:k < 1000000000):wk .i64 ((k:Int)+1)=((k+1:Nat):Int):=by rw [zQ (by omega) (by omega)]; omega
theorem toList_loop (bs:ByteArray):∀ (m i:Nat) (r:List UInt8),i+m=bs.size→ByteArray.toList.loop bs i r=r.reverse++bs.data.toList.drop i
 | 0,i,r,h=>by
  rw [ByteArray.toList.loop,if_neg (by omega),List.drop_eq_nil_of_le (by show bs.data.toList.length≤i; have:bs.data.toList.length=bs.size:=rfl; omega),List.append_nil]
 | m+1,i,r,h=>by
  have hi:i < bs.data.toList.length:=by have:bs.data.toList.length=bs.size:=rfl; omega
  rw [ByteArray.toList.loop,if_pos (by omega),toList_loop bs m (i+1) _ (by omega),List.drop_eq_getElem_cons hi]
  have e:bs.get! i=bs.data.toList[i]:=by
   show bs.data[i]! = _
   rw [getElem!_pos bs.data i (by simpa using hi)]
   simp
  rw [e]
  simp
theorem toList_eq (bs:ByteArray):bs.toList=bs.data.toList:=by
 unfold ByteArray.toList
 rw [toList_loop bs bs.size 0 [] (by omega)]
 simp
def nb (s:ByteArray):List Nat:=s.data.toList.map UInt8.toNat
theorem xL (s:ByteArray):(nb s).length=s.size:=by simp [nb]
theorem nb_inj {s t:ByteArray} (h:nb s=nb t):s=t:=by
 have:s.data.toList=t.data.toList:=List.map_inj_right (fun a b hab=>UInt8.toNat_inj.1 hab) |>.1 h
 exact ByteArray.ext (Array.toList_inj.1 this)
theorem beq_nb (s t:ByteArray):(s.toList == t.toList)=decide (nb s=nb t):=by
 rw [toList_eq,toList_eq]
 by_cases h:nb s=nb t
 ·have:=nb_inj h
  subst this
  simp
 ·rw [decide_eq_false h,beq_eq_false_iff_ne]
  intro he
  exact h (by unfold nb; rw [he])
theorem nb_lt {s:ByteArray} {x:Nat} (h:x ∈ nb s):x < 256:=by
 obtain ⟨b,_,rfl⟩:=List.mem_map.1 h
 exact UInt8.toNat_lt b
theorem sidx_nb {s:ByteArray} {k:Nat} (h:k < s.size):∃ b:Nat,sidx s (k:Int)=some (b:Int)∧(nb s)[k]? = some b∧b < 256:=by
 unfold sidx
 rw [if_neg (by omega),Int.toNat_natCast,if_pos h]
 have hk:k < s.data.size:=h
 refine ⟨(s.data[k]).toNat,?_,?_,UInt8.toNat_lt _⟩
 ·unfold bt
  congr 2
  rw [Array.getD_eq_getD_getElem?,Array.getElem?_eq_getElem hk]
  rfl
 ·simp [nb,hk,Array.getElem?_eq_getElem hk]
theorem qE4 (s:ByteArray) (a b:Nat):nb (s.extract a b)=((nb s).drop a).take (b - a):=by
 have:(s.extract a b).data=s.data.extract a b:=ByteArray.data_extract
 unfold nb
 rw [this,Array.toList_extract]
 simp [List.extract]
theorem nb_mkS {l:List Nat} (h:∀ x ∈ l,x < 256):nb (mkS (l.map fun x:Nat=>(x:Int)))=l:=by
 unfold nb mkS
 simp only [List.map_map]
 conv=>rhs; rw [← List.map_id l]
 apply List.map_congr_left
 intro x hx
 have:=h x hx
 simp
 omega
theorem yO (s t:ByteArray):nb (s++t)=nb s++nb t:=by
 unfold nb
 rw [ByteArray.data_append]
 simp
theorem qF2 (l:List Int):(mkS l).size=l.length:=by
 show (mkS l).data.size=_
 simp [mkS]
def qK (s:ByteArray):Bool:=decide (s.size≤60) && decide ((10:Nat) ∉ nb s)
theorem lineS_eq {s:ByteArray} (h:s.size≤1000000000):zR9 s=some (qK s):=by
 unfold zR9 qK
 have hl:=xL s
 have:=qB6 (body:=fun s'=>zB7 s s') (good:=.inr ()) (bad:=.inl false) (fun k=>(k:Int)) s.size (fun k=>decide ((nb s)[k]?≠some 10)) (fun k hk _ hp=>by
  obtain ⟨b,g1,g2,_⟩:=sidx_nb hk
  unfold zB7
  rw [ifT (by simpa using hk),g1,Option.bind_some]
  rw [g2] at hp
  have hb:¬b=10:=by simpa using hp
  rw [ifF (by simp; omega),wkS k (by omega)]) (fun k hk _ hp=>by
  obtain ⟨b,g1,g2,_⟩:=sidx_nb hk
  unfold zB7
  rw [ifT (by simpa using hk),g1,Option.bind_some]
  rw [g2] at hp
  have hb:b=10:=by simpa using hp
  rw [ifT (by simp; omega)]) (fun _=>by
  unfold zB7
  rw [ifF (by simp)])
 have e0:((0:Nat):Int)=0:=rfl
 rw [e0] at this
 rw [this]
 have hiff:((List.range s.size).all fun k=>decide ((nb s)[k]?≠some 10))=decide ((10:Nat) ∉ nb s):=by
  rw [Bool.eq_iff_iff,List.all_eq_true,decide_eq_true_eq]
  constructor
  ·intro hh hm
   obtain ⟨k,hk,hk2⟩:=List.getElem_of_mem hm
   have:=hh k (List.mem_range.2 (by omega))
   rw [List.getElem?_eq_getElem hk,hk2] at this
   simp at this
  ·intro hh k hk
   simp only [decide_eq_true_eq]
   intro hq
   exact hh (List.mem_of_getElem? hq)
 rw [hiff]
 unfold zX1
 cases decide ((10:Nat) ∉ nb s) with
 | true =>
  simp
  omega
 | false=>simp
theorem contains_one (l:List UInt8) (c:UInt8):Go.Lib.contains l [c]=decide (c.toNat ∈ l.map UInt8.toNat):=by
 unfold Go.Lib.contains
 induction l with
 | nil=>rfl
 | cons b l ih =>
  have hp:[c].isPrefixOf (b :: l)=(c == b):=by simp [List.isPrefixOf]
  unfold Go.Lib.index
  rw [hp,List.map_cons]
  by_cases h:c=b
  ·subst h
   simp
  ·have h':(c == b)=false:=by simpa using h
   have hn:c.toNat≠b.toNat:=fun q=>h (UInt8.toNat_inj.1 q)
   rw [h',if_neg (by simp)]
   have hm:decide (c.toNat ∈ b.toNat :: l.map UInt8.toNat)=decide (c.toNat ∈ l.map UInt8.toNat):=by
    rw [decide_eq_decide,List.mem_cons]
    exact ⟨fun q=>q.resolve_left hn,.inr⟩
   rw [hm,← ih]
   have hge:=Go.Lib.index_ge l [c]
   by_cases hr:Go.Lib.index l [c] = -1
   ·rw [hr]; rfl
   ·rw [if_neg (by simpa using hr)]
    rw [decide_eq_decide]
    omega
theorem lineI_eq {s:ByteArray}:zY2 s=some (qK s):=by
 unfold zY2 qK
 by_cases q:s.size≤60
 ·rw [ifT (by simp; omega)]
  have hc:strings_Contains s (ByteArray.mk #[10])=some (decide ((10:Nat) ∈ nb s)):=by
   unfold strings_Contains
   rw [if_pos (by omega)]
   exact congrArg some (contains_one s.data.toList 10)
  rw [hc]
  simp only [Option.bind_some]
  have:decide (s.size≤60)=true:=decide_eq_true q
  rw [this,Bool.true_and]
  congr 1
  by_cases h:(10:Nat) ∈ nb s <;> simp [h]
 ·rw [ifF (by simp; omega)]
  simp [q]
theorem all_range {α:Type} (l:List α) (p:α→Bool):((List.range l.length).all fun k=>(l[k]?.map p).getD true)=l.all p:=by
 rw [Bool.eq_iff_iff,List.all_eq_true,List.all_eq_true]
 constructor
 ·intro h x hx
  obtain ⟨k,hk,rfl⟩:=List.getElem_of_mem hx
  have:=h k (List.mem_range.2 hk)
  rw [List.getElem?_eq_getElem hk] at this
  exact this
 ·intro h k hk
  rw [List.getElem?_eq_getElem (List.mem_range.1 hk)]
  exact h _ (List.getElem_mem _)
end Go.TV.F
namespace Go.TV.F
open Go.TV
theorem orO (a b:Bool):(if a=true then some true else some b)=some (a || b):=by cases a <;> rfl
theorem all_loopN {β:Type} {body:Int→Option (Int⊕(β⊕Unit))} {bad:β} (n:Nat) (p:Nat→Bool)
  (hs:∀ k,k < n→(∀ j,j < k→p j=true)→body (k:Int)=some (if p k=true then .inl ((k+1:Nat):Int) else .inr (.inl bad)))
  (he:body (n:Int)=some (.inr (.inr ()))):zB body 0=some (if (List.range n).all p=true then .inr () else .inl bad):=
 qB6 (ρ:=β⊕Unit) (good:=Sum.inr ()) (bad:=Sum.inl bad) (fun k=>(k:Int)) n p (fun k hk hj hp=>by rw [hs k hk hj,if_pos hp]) (fun k hk hj hp=>by rw [hs k hk hj,hp]; rfl) (fun _=>he)
theorem all_loopL {α β:Type} {body:Int→Option (Int⊕(β⊕Unit))} {bad:β} (l:List α) (q:α→Bool)
  (hs:∀ (k:Nat) (x:α),l[k]? = some x→k < l.length→body (k:Int)=some (if q x=true then .inl ((k+1:Nat):Int) else .inr (.inl bad)))
  (he:body (l.length:Int)=some (.inr (.inr ()))):zB body 0=some (if l.all q=true then .inr () else .inl bad):=by
 rw [← all_range l q]
 exact all_loopN l.length _ (fun k hk _=>by rw [hs k l[k] (List.getElem?_eq_getElem hk) hk,List.getElem?_eq_getElem hk]; rfl) he
theorem map_loop {α β ρ:Type} {body:Int×List β→Option ((Int×List β)⊕ρ)} (l:List α) (f:α→β) (fin:List β→ρ) (hl:l.length≤1000000000)
  (hs:∀ (k:Nat) (x:α) (out:List β),l[k]? = some x→k < l.length→out.length≤1000000000→body ((k:Int),out)=some (.inl (((k+1:Nat):Int),out++[f x])))
  (he:∀ out:List β,body ((l.length:Int),out)=some (.inr (fin out))):zB body (0,[])=some (fin (l.map f)):=by
 have h:=zC8 (body:=body) (r:=fin (l.map f)) (fun k=>((k:Int),(l.take k).map f)) l.length (fun k hk=>by
  rw [hs k l[k] _ (List.getElem?_eq_getElem hk) hk (by simp; omega),List.take_add_one,List.getElem?_eq_getElem hk,List.map_append]
  rfl) (by rw [List.take_length]; exact he _)
 simpa using h
theorem bl_tri:∀ a b:List UInt8,(Op.bytesLess a b || a == b)=!Op.bytesLess b a
 | [],[]=>rfl
 | [],b :: y=>rfl
 | a :: x,[]=>rfl
 | a :: x,b :: y=>by
  have ih:=bl_tri x y
  simp only [Op.bytesLess]
  rcases Nat.lt_trichotomy a.toNat b.toNat with h | h | h
  ·have h1:a < b:=h
   have h2:¬b < a:=fun q=>by have q':b.toNat < a.toNat:=q; omega
   have h3:¬b=a:=fun q=>by subst q; omega
   simp [h1,h2,h3]
  ·have h3:a=b:=UInt8.toNat_inj.1 h
   subst h3
   have h1:¬a < a:=fun q=>by have q':a.toNat < a.toNat:=q; omega
   simp [h1]
   rw [← ih]
   try (cases Op.bytesLess x y <;> simp)
  ·have h1:b < a:=h
   have h2:¬a < b:=fun q=>by have q':a.toNat < b.toNat:=q; omega
   have h3:¬a=b:=fun q=>by subst q; omega
   simp [h1,h2,h3]
theorem qZ {α:Type} {l:List α} {i:Nat} {d:α} (h:i < l.length):l.getD i d=l[i]:=by
 rw [List.getD_eq_getElem?_getD,List.getElem?_eq_getElem h]
 rfl
theorem getD_some {α:Type} {l:List α} {i:Nat} {d x:α} (h:l[i]? = some x):l.getD i d=x:=by
 rw [List.getD_eq_getElem?_getD,h]
 rfl
def xX {α:Type} (p:α→Bool):List α→Int
 | []=>-1
 | x :: l=>if p x=true then 0 else if xX p l = -1 then -1 else xX p l+1
theorem qA7 {α:Type} (p:α→Bool):∀ l:List α,-1≤xX p l
 | []=>by simp [xX]
 | x :: l=>by
  have:=qA7 p l
  unfold xX
  split
  ·omega
  ·split <;> omega
theorem fidx_lt {α:Type} (p:α→Bool):∀ l:List α,xX p l < l.length
 | []=>by simp [xX]
 | x :: l=>by
  have:=fidx_lt p l
  unfold xX
  rw [List.length_cons]
  split
  ·omega
  ·split <;> omega
theorem qB3 {α:Type} (p:α→Bool):∀ l:List α,xX p l = -1↔∀ x ∈ l,p x=false
 | []=>by simp [xX]
 | x :: l=>by
  have ih:=qB3 p l
  have hg:=qA7 p l
  unfold xX
  by_cases h:p x=true
  ·rw [if_pos h]
   constructor
   ·intro h; omega
   ·intro q
    have:=q x (by simp)
    rw [h] at this
    cases this
  ·rw [if_neg h]
   have h':p x=false:=by simpa using h
   by_cases q:xX p l = -1
   ·rw [if_pos q]
    have:=ih.1 q
    simp [h',this]
    exact this
   ·rw [if_neg q]
    constructor
    ·intro h; omega
    ·intro r
     exact absurd (ih.2 fun y hy=>r y (by simp [hy])) q
theorem qL8 {α:Type} (p:α→Bool):∀ (l:List α) (k:Nat),xX p l=k↔∃ h:k < l.length,p l[k]=true∧∀ (j:Nat) (hj:j < k),p (l[j]'(by omega))=false
 | [],k=>by
  constructor
  ·intro h
   have:xX p ([]:List α) = -1:=rfl
   omega
  ·rintro ⟨h,_⟩
   simp at h
 | x :: l,k=>by
  have hg:=qA7 p l
  unfold xX
  by_cases h:p x=true
  ·rw [if_pos h]
   constructor
   ·intro hk
    have:k=0:=by omega
    subst this
    exact ⟨by simp,h,fun j hj=>by omega⟩
   ·rintro ⟨h1,h2,h3⟩
    rcases Nat.eq_zero_or_pos k with rfl | hk
    ·rfl
    ·have:=h3 0 hk
     simp only [List.getElem_cons_zero] at this
     rw [h] at this
     cases this
  ·have h':p x=false:=by simpa using h
   rw [if_neg h]
   cases k with
   | zero =>
    constructor
    ·intro hk
     split at hk <;> omega
    ·rintro ⟨_,h2,_⟩
     simp only [List.getElem_cons_zero] at h2
     rw [h'] at h2
     cases h2
   | succ k =>
    have ih:=qL8 p l k
    constructor
    ·intro hk
     have hk':xX p l=k:=by
      split at hk <;> omega
     obtain ⟨h1,h2,h3⟩:=ih.1 hk'
     refine ⟨by simp; omega,by simpa using h2,fun j hj=>?_⟩
     cases j with
     | zero=>simpa using h'
     | succ j=>simpa using h3 j (by omega)
    ·rintro ⟨h1,h2,h3⟩
     have hk':xX p l=k:=ih.2 ⟨by simp at h1; omega,by simpa using h2,fun j hj=>by simpa using h3 (j+1) (by omega)⟩
     rw [if_neg (by omega)]
     omega
theorem qL3 {α:Type} {body:Int→Option (Int⊕(Int⊕Unit))} (l:List α) (p:α→Bool)
  (hs:∀ (k:Nat) (x:α),l[k]? = some x→k < l.length→body (k:Int)=some (if p x=true then .inr (.inl (k:Int)) else .inl ((k+1:Nat):Int)))
  (he:body (l.length:Int)=some (.inr (.inr ()))):zB body 0=some (if xX p l = -1 then .inr () else .inl (xX p l)):=by
 have key:∀ (m k:Nat),k+m=l.length→(∀ (j:Nat) (hj:j < k) (h2:j < l.length),p l[j]=false)→zB body (k:Int)=some (if xX p l = -1 then .inr () else .inl (xX p l)):=by
  intro m
  induction m with
  | zero =>
   intro k hk hp
   have:k=l.length:=by omega
   subst this
   rw [zX,he,if_pos]
   ·rfl
   ·rw [qB3]
    intro x hx
    obtain ⟨j,hj,rfl⟩:=List.getElem_of_mem hx
    exact hp j hj hj
  | succ m ih =>
   intro k hk hp
   have hlt:k < l.length:=by omega
   rw [zX,hs k l[k] (List.getElem?_eq_getElem hlt) hlt]
   by_cases q:p l[k]=true
   ·rw [if_pos q]
    have e:xX p l=k:=(qL8 p l k).2 ⟨hlt,q,fun j hj=>hp j hj (by omega)⟩
    rw [if_neg (by omega),e]
    rfl
   ·rw [if_neg q]
    refine ih (k+1) (by omega) (fun j hj h2=>?_)
    rcases Nat.lt_succ_iff_lt_or_eq.1 hj with h | rfl
    ·exact hp j h h2
    ·simpa using q
 exact key l.length 0 (by omega) (fun j hj=>by omega)
end Go.TV.F
namespace Go.TV.F
open Go.TV
def pathC (b:Nat):Bool:=(((((decide ((b:Int)≥97) && decide ((b:Int)≤122)) || (decide ((b:Int)≥48) && decide ((b:Int)≤57))) || ((b:Int) == 46)) || ((b:Int) == 45)) || ((b:Int) == 47))
def dbl (s:ByteArray):Bool:=Go.Lib.contains s.data.toList [47,47]
def b0 (s:ByteArray) (i:Nat):Nat:=(nb s).getD i 0
def pathB (s:ByteArray):Bool:=(decide (1≤s.size) && decide (s.size≤24)) && (nb s).all pathC && (!(b0 s 0 == 47) && !(b0 s (s.size - 1) == 47)) && !dbl s
end Go.TV.F
namespace Go.TV.F
open Go.TV
def idN (l:List T_impl_Name) (id:Int):Int:=xX (fun n=>n.Id == id) l
def bN:T_impl_Name:=⟨ByteArray.mk #[],0,0⟩
def nameAt (l:List T_impl_Name) (i:Nat):Bool:=
 pathB (l.getD i bN).Path && (i == 0 || Op.bytesLess (l.getD (i - 1) bN).Path.toList (l.getD i bN).Path.toList) && (decide (0≤(l.getD i bN).Id) && decide ((l.getD i bN).Id≤11)) && (decide (0≤(l.getD i bN).Version) && decide ((l.getD i bN).Version≤39)) && (List.range i).all fun k=>!((l.getD k bN).Id == (l.getD i bN).Id)
def zV3 (l:List T_impl_Name):Bool:=decide (l.length≤12) && (List.range l.length).all (nameAt l)
def smN (l:List T_impl_Name):Prop:=∀ n ∈ l,n.Path.size≤1000000000
def noteC (b:Nat):Bool:=!(decide ((b:Int) < 32) || decide ((b:Int) > 126))
def noteB (s:ByteArray):Bool:=decide (s.size≤40) && (nb s).all noteC
def qG6 (l:List T_impl_Commit):List (List Int):=l.map fun c=>c.Parents
def nameIn (vs:List Int) (n:T_impl_Name):Bool:=!(decide (n.Id≥(vs.length:Int)) || decide (n.Version≥vs.getD n.Id.toNat 0))
def commitB (vs:List Int) (c:T_impl_Commit):Bool:=noteB c.Note && zV3 c.Names && c.Names.all (nameIn vs)
def zQ2 (l:List T_impl_Commit) (vs:List Int):Bool:=decide (l.length≤40) && decide (vs.length≤12) && gOk (qG6 l) && (vs.all fun n=>decide (0≤n) && decide (n≤40)) && l.all (commitB vs)
def smC (c:T_impl_Commit):Prop:=c.Note.size≤1000000000∧smN c.Names
theorem qL9 {l:List T_impl_Name} (h:zV3 l=true) {k:Nat} (hk:k < l.length):nameAt l k=true:=by
 unfold zV3 at h
 rw [Bool.and_eq_true,List.all_eq_true] at h
 exact h.2 k (List.mem_range.2 hk)
theorem namesB_len {l:List T_impl_Name} (h:zV3 l=true):l.length≤12:=by
 unfold zV3 at h
 rw [Bool.and_eq_true,decide_eq_true_eq] at h
 exact h.1
theorem qM0 {l:List T_impl_Name} (h:zV3 l=true) {n:T_impl_Name} (hn:n ∈ l):0≤n.Id∧n.Id≤11∧0≤n.Version∧n.Version≤39∧pathB n.Path=true:=by
 obtain ⟨k,hk,rfl⟩:=List.getElem_of_mem hn
 have:=qL9 h hk
 unfold nameAt at this
 rw [qZ hk] at this
 simp only [Bool.and_eq_true,decide_eq_true_eq] at this
 exact ⟨this.1.1.2.1,this.1.1.2.2,this.1.2.1,this.1.2.2,this.1.1.1.1⟩
end Go.TV.F
namespace Go.TV.F
open Go.TV
def inB (x:Int):Bool:=decide (0≤x) && decide (x≤63)
def setN (l:List Int):Nat:=l.foldl (fun (s:Nat) (x:Int)=>if inB x=true then s ||| 2 ^ x.toNat else s) 0
theorem setN_snoc (l:List Int) (x:Int):setN (l++[x])=if inB x=true then setN l ||| 2 ^ x.toNat else setN l:=by
 simp [setN]
theorem setN_take {l:List Int} {i:Nat} (hi:i < l.length):setN (l.take (i+1))=if inB l[i]=true then setN (l.take i) ||| 2 ^ l[i].toNat else setN (l.take i):=by
 rw [List.take_succ_eq_append_getElem hi,setN_snoc]
theorem inB_lt {x:Int} (h:inB x=true):0≤x∧x≤63:=by simpa [inB] using h
theorem fold_lt (l:List Int):∀ s:Nat,s < 2 ^ 64→l.foldl (fun (s:Nat) (x:Int)=>if inB x=true then s ||| 2 ^ x.toNat else s) s < 2 ^ 64:=by
 induction l with
 | nil=>intro s h; exact h
 | cons x l ih =>
  intro s h
  rw [List.foldl_cons]
  refine ih _ ?_
  split
  ·rename_i q
   have:=inB_lt q
   exact Nat.or_lt_two_pow h (Nat.pow_lt_pow_right (by decide) (by omega))
  ·exact h
theorem setN_lt (l:List Int):setN l < 2 ^ 64:=fold_lt l 0 (by decide)
theorem fold_test (l:List Int) (u:Nat):∀ s:Nat,(l.foldl (fun (s:Nat) (x:Int)=>if inB x=true then s ||| 2 ^ x.toNat else s) s).testBit u=(s.testBit u || l.any fun x=>inB x && (x == (u:Int))):=by
 induction l with
 | nil=>intro s; simp
 | cons x l ih =>
  intro s
  rw [List.foldl_cons,ih,List.any_cons]
  by_cases q:inB x=true
  ·have:=inB_lt q
   rw [if_pos q,Nat.testBit_or,Nat.testBit_two_pow,q,Bool.true_and,Bool.or_assoc]
   have e:decide (x.toNat=u)=(x == (u:Int)):=by
    rw [Bool.eq_iff_iff]
    simp
    omega
   rw [e]
  ·rw [if_neg q]
   have q:inB x=false:=by simpa using q
   rw [q]
   simp
theorem setN_test (l:List Int) (u:Nat):(setN l).testBit u=l.any fun x=>inB x && (x == (u:Int)):=by
 unfold setN
 rw [fold_test]
 simp
theorem setOf_eq {l:List Int} (hl:l.length≤1000000000):qD6 l=some ((setN l:Nat):Int):=by
 unfold qD6
 have:=zC8 (body:=fun (s':Int×Int)=>zB0 l s'.1 s'.2) (r:=((setN l:Nat):Int)) (fun k=>(((setN (l.take k):Nat):Int),(k:Int))) l.length (fun k hk=>by
  show zB0 l _ (k:Int)=_
  unfold zB0
  rw [ifT (by simpa using hk),zD,List.getElem?_eq_getElem hk,Option.bind_some,qI8,Option.bind_some,zQ (x:=(k:Int)+1) (by omega) (by omega),setN_take hk]
  show (if inB l[k]=true then _ else _)=_
  by_cases q:inB l[k]=true
  ·have h:=inB_lt q
   rw [if_pos q,if_pos q,wku64 (x:=l[k]) (by omega) (by omega),chk_in (by omega),Option.bind_some]
   obtain ⟨n,hn⟩:∃ n:Nat,l[k]=n:=⟨l[k].toNat,by omega⟩
   have h1:=setN_lt (l.take k)
   have h2:(2:Nat) ^ n < 2 ^ 64:=Nat.pow_lt_pow_right (by decide) (by omega)
   rw [hn,shl_one (by omega),or_u64 h1 h2]
   rfl
  ·rw [if_neg q,if_neg q]
   rfl) (by
  show zB0 l _ (l.length:Int)=_
  unfold zB0
  rw [ifF (by simp),List.take_length])
 rw [show ((0:Int),(0:Int))=(((setN (l.take 0):Nat):Int),((0:Nat):Int)) from rfl,this]
 rfl
end Go.TV.F
namespace Go.TV.F
open Go.TV
def goE {α β ρ:Type} (step:Nat→β→α→β⊕ρ) (fin:β→ρ):List α→Nat→β→ρ
 | [],_,b=>fin b
 | x :: l,i,b=>match step i b x with
  | .inl b'=>goE step fin l (i+1) b'
  | .inr r=>r
theorem loopE {S ρ α β:Type} {body:S→Option (S⊕ρ)} (mk:Nat→β→S) (l:List α) (step:Nat→β→α→β⊕ρ) (fin:β→ρ) (I:Nat→β→Prop)
  (hs:∀ (i:Nat) (x:α) (b:β),l[i]? = some x→i < l.length→I i b→(∃ b',step i b x=.inl b'∧body (mk i b)=some (.inl (mk (i+1) b'))∧I (i+1) b')∨∃ r,step i b x=.inr r∧body (mk i b)=some (.inr r))
  (he:∀ b,I l.length b→body (mk l.length b)=some (.inr (fin b))) {b0:β} (h0:I 0 b0):zB body (mk 0 b0)=some (goE step fin l 0 b0):=by
 have key:∀ (l' pre:List α) (b:β),l=pre++l'→I pre.length b→zB body (mk pre.length b)=some (goE step fin l' pre.length b):=by
  intro l'
  induction l' with
  | nil =>
   intro pre b h hI
   rw [List.append_nil] at h
   subst h
   rw [zX,he b hI]
   rfl
  | cons x l' ih =>
   intro pre b h hI
   have hx:l[pre.length]? = some x:=by rw [h]; simp
   have hlt:pre.length < l.length:=by rw [h]; simp
   rw [zX]
   rcases hs pre.length x b hx hlt hI with ⟨b',h1,h2,h3⟩ | ⟨r,h1,h2⟩
   ·rw [h2]
    have:=ih (pre++[x]) b' (by simp [h]) (by simpa using h3)
    simp only [List.length_append,List.length_singleton] at this
    simp only [goE,h1]
    exact this
   ·rw [h2]
    have:goE step fin (x :: l') pre.length b=r:=by simp only [goE,h1]
    rw [this]
    rfl
 exact key l [] b0 rfl h0
theorem zV4 {ρ α:Type} {body:Int→Option (Int⊕ρ)} {good bad:ρ} (l:List α) (p:α→Bool) (hs:∀ (i:Nat) (x:α),l[i]? = some x→i < l.length→body (i:Int)=some (if p x=true then .inl ((i+1:Nat):Int) else .inr bad))
  (he:body (l.length:Int)=some (.inr good)):zB body 0=some (if l.all p=true then good else bad):=by
 have key:∀ (l' pre:List α),l=pre++l'→zB body (pre.length:Int)=some (if l'.all p=true then good else bad):=by
  intro l'
  induction l' with
  | nil =>
   intro pre h
   rw [List.append_nil] at h
   subst h
   rw [zX,he]
   rfl
  | cons x l' ih =>
   intro pre h
   have hx:l[pre.length]? = some x:=by rw [h]; simp
   have hlt:pre.length < l.length:=by rw [h]; simp
   rw [zX,hs _ _ hx hlt,List.all_cons]
   cases q:p x with
   | true =>
    have:=ih (pre++[x]) (by simp [h])
    simp only [List.length_append,List.length_singleton] at this
    simpa using this
   | false=>rfl
 exact key l [] rfl
def idxs {α:Type} (p:α→Bool):List α→Nat→List Nat
 | [],_=>[]
 | x :: l,i=>if p x=true then i :: idxs p l (i+1) else idxs p l (i+1)
theorem idxs_len {α:Type} (p:α→Bool):∀ (l:List α) (i:Nat),(idxs p l i).length≤l.length
 | [],_=>Nat.le_refl _
 | x :: l,i=>by
  have:=idxs_len p l (i+1)
  simp only [idxs]
  split <;> simp <;> omega
theorem idxs_mem {α:Type} (p:α→Bool):∀ (l:List α) (i j:Nat),j ∈ idxs p l i↔i≤j∧∃ x,l[j - i]? = some x∧p x=true
 | [],i,j=>by simp [idxs]
 | x :: l,i,j=>by
  have ih:=idxs_mem p l (i+1) j
  simp only [idxs]
  have hs:i+1≤j→(x :: l)[j - i]? = l[j - (i+1)]?:=fun h=>by
   rw [show j - i=(j - (i+1))+1 by omega,List.getElem?_cons_succ]
  split
  ·rename_i hp
   rw [List.mem_cons,ih]
   constructor
   ·rintro (rfl | ⟨h1,h2⟩)
    ·exact ⟨Nat.le_refl _,x,by simp,hp⟩
    ·exact ⟨by omega,by rw [hs h1]; exact h2⟩
   ·rintro ⟨h1,y,h2,h3⟩
    rcases Nat.eq_or_lt_of_le h1 with q | q
    ·exact .inl q.symm
    ·exact .inr ⟨q,y,by rw [← hs q]; exact h2,h3⟩
  ·rename_i hp
   rw [ih]
   constructor
   ·rintro ⟨h1,h2⟩
    exact ⟨by omega,by rw [hs h1]; exact h2⟩
   ·rintro ⟨h1,y,h2,h3⟩
    rcases Nat.eq_or_lt_of_le h1 with q | q
    ·subst q
     simp only [Nat.sub_self,List.getElem?_cons_zero,Option.some.injEq] at h2
     subst h2
     exact absurd h3 hp
    ·exact ⟨q,y,by rw [← hs q]; exact h2,h3⟩
theorem idxs_go {α:Type} (p:α→Bool):∀ (l:List α) (i:Nat) (out:List Int),goE (ρ:=List Int) (fun i (b:List Int) x=>.inl (if p x=true then b++[(i:Int)] else b)) id l i out=out++kS (idxs p l i)
 | [],_,out=>by simp [goE,idxs,kS]
 | x :: l,i,out=>by
  simp only [goE,idxs]
  rw [idxs_go p l (i+1)]
  split <;> simp [kS]
def outB (s:Nat) (d:Int):Bool:=!(inB d && s.testBit d.toNat)
def zV (s:Nat) (b:T_impl_Body):Bool:=(inB b.Ins && s.testBit b.Ins.toNat) && b.Dels.all (outB s)
theorem has_eq {s:Nat} {v:Int} (hs:s < 2 ^ 64):zO2 (s:Int) v=some (inB v && s.testBit v.toNat):=by
 rw [setHas_eq hs]
 rfl
theorem and_zero {a s:Nat}:(((a &&& s:Nat):Int) == 0)=true↔∀ u,¬(a.testBit u=true∧s.testBit u=true):=by
 rw [beq_iff_eq]
 constructor
 ·intro h u hu
  have h0:a &&& s=0:=by omega
  have:=congrArg (fun z=>z.testBit u) h0
  simp [Nat.testBit_and,hu.1,hu.2] at this
 ·intro h
  have:a &&& s=0:=Nat.eq_of_testBit_eq (fun u=>by
   rw [Nat.testBit_and,Nat.zero_testBit]
   cases h1:a.testBit u <;> cases h2:s.testBit u <;> simp
   exact h u ⟨h1,h2⟩)
  rw [this]
  rfl
theorem dels_out (l:List Int) (s:Nat):(((setN l &&& s:Nat):Int) == 0)=l.all (outB s):=by
 rw [Bool.eq_iff_iff,and_zero,List.all_eq_true]
 constructor
 ·intro h x hx
  unfold outB
  cases hi:inB x with
  | false=>rfl
  | true =>
   cases hb:s.testBit x.toNat with
   | false=>rfl
   | true =>
    refine absurd ⟨?_,hb⟩ (h x.toNat)
    rw [setN_test,List.any_eq_true]
    have:=inB_lt hi
    exact ⟨x,hx,by rw [hi]; simp; omega⟩
 ·rintro h u ⟨h1,h2⟩
  rw [setN_test,List.any_eq_true] at h1
  obtain ⟨x,hx,h3⟩:=h1
  simp only [Bool.and_eq_true,beq_iff_eq] at h3
  have:=h x hx
  unfold outB at this
  rw [h3.1,h3.2] at this
  simp [h2] at this
theorem isLive_eq {b:T_impl_Body} {s:Nat} (hs:s < 2 ^ 64) (hl:b.Dels.length≤1000000000):wS b (s:Int)=some (zV s b):=by
 unfold wS zV
 rw [has_eq hs,Option.bind_some]
 cases q:(inB b.Ins && s.testBit b.Ins.toNat) with
 | false=>rfl
 | true =>
  rw [ifT rfl,setOf_eq hl,Option.bind_some,and_u64 (setN_lt _) hs,dels_out]
  rfl
def agree (t:List Bool) (s:Nat):Prop:=t.length≤64∧∀ u,t.getD u false=s.testBit u
theorem agree_at {t:List Bool} {s:Nat} (h:agree t s) (v:Int):(decide (0≤v) && decide (v≤(t.length:Int) - 1) && t.getD v.toNat false)=(inB v && s.testBit v.toNat):=by
 rw [h.2]
 have hl:=h.1
 unfold inB
 by_cases q0:0≤v
 ·by_cases q1:v≤(t.length:Int) - 1
  ·have:v≤63:=by omega
   simp [q0,q1,this]
  ·have hb:s.testBit v.toNat=false:=by
    rw [← h.2,List.getD_eq_getElem?_getD,List.getElem?_eq_none (by omega)]
    rfl
   simp [hb]
 ·simp [q0]
theorem qO5 {b:T_impl_Body} {t:List Bool} {s:Nat} (ha:agree t s) (hl:b.Dels.length≤1000000000):yT b t=some (zV s b):=by
 have hat:=agree_at ha
 have ht:=ha.1
 have get:∀ {v:Int},0≤v→v≤(t.length:Int) - 1→zF t v=some (t.getD v.toNat false):=fun {v} h0 h1=>by
  rw [zC1 h0 (by omega),List.getD_eq_getElem?_getD,List.getElem?_eq_getElem (by omega)]
  rfl
 unfold yT zV
 rw [zQ (by omega) (by omega),qF7,Option.bind_some,← hat b.Ins]
 cases q0:(decide (0≤b.Ins) && decide (b.Ins≤(t.length:Int) - 1)) with
 | false=>rfl
 | true =>
  have q0':=q0
  simp only [Bool.and_eq_true,decide_eq_true_eq] at q0'
  rw [ifF (b:=!true) rfl,get q0'.1 q0'.2,Option.bind_some]
  simp only [Option.bind_some]
  cases q1:t.getD b.Ins.toNat false with
  | false=>rfl
  | true =>
   rw [ifF (b:=!true) rfl]
   have:=zV4 (body:=fun s'=>zE5 b t s') (good:=.inr ()) (bad:=.inl false) b.Dels (outB s) (fun i x hi hlt=>by
    unfold zE5
    rw [ifT (by simpa using hlt),zD,hi,Option.bind_some,zQ (by omega) (by omega),qF7,Option.bind_some,wkS i (by omega)]
    unfold outB
    rw [← hat x]
    cases q2:(decide (0≤x) && decide (x≤(t.length:Int) - 1)) with
    | false=>rfl
    | true =>
     have q2':=q2
     simp only [Bool.and_eq_true,decide_eq_true_eq] at q2'
     rw [ifT rfl,get q2'.1 q2'.2]
     simp only [Option.bind_some]
     cases t.getD x.toNat false <;> rfl) (by
    unfold zE5
    rw [ifF (by simp)])
   rw [this,Option.bind_some]
   cases b.Dels.all (outB s) <;> rfl
def qE8 (w:T_impl_Weave):Prop:=w.Bodies.length≤1000000000∧∀ b ∈ w.Bodies,b.Dels.length≤1000000000
def places (s:Nat) (w:T_impl_Weave):List Nat:=idxs (zV s) w.Bodies 0
theorem liveIn_eq {w:T_impl_Weave} {s:Nat} (hs:s < 2 ^ 64) (hw:qE8 w):wF w (s:Int)=some (kS (places s w)):=by
 have hwl:=hw.1
 unfold wF places
 have:=loopE (body:=fun (s':Int×List Int)=>xQ w s s'.1 s'.2) (fun i b=>((i:Int),b)) w.Bodies (fun i (b:List Int) x=>(.inl (if zV s x=true then b++[(i:Int)] else b):List Int⊕List Int)) id (fun i b=>b.length≤i) (fun i x b hi hlt hI=>by
  left
  refine ⟨_,rfl,?_,?_⟩
  ·show xQ w s i b=_
   unfold xQ
   rw [ifT (by simpa using hlt),zD,hi,Option.bind_some]
   show (wS x s).bind _=_
   rw [isLive_eq hs (hw.2 x (List.mem_of_getElem? hi)),Option.bind_some,wkS i (by omega)]
   cases zV s x with
   | true=>rw [ifT rfl,zJ (by simp; omega),Option.bind_some]; rfl
   | false=>rfl
  ·split <;> (try simp only [List.length_append,List.length_singleton]) <;> omega) (fun b hI=>by
  show xQ w s w.Bodies.length b=_
  unfold xQ
  rw [ifF (by simp)]
  rfl) (b0:=[]) (by simp)
 have e0:((0:Nat):Int)=0:=rfl
 rw [e0] at this
 rw [this,idxs_go,Option.bind_some,List.nil_append]
 rfl
theorem qD3 {w:T_impl_Weave} {t:List Bool} {s:Nat} (ha:agree t s) (hw:qE8 w):xZ w t=some (kS (places s w)):=by
 have hwl:=hw.1
 unfold xZ places
 have:=loopE (body:=fun (s':Int×List Int)=>wC w t s'.1 s'.2) (fun i b=>((i:Int),b)) w.Bodies (fun i (b:List Int) x=>(.inl (if zV s x=true then b++[(i:Int)] else b):List Int⊕List Int)) id (fun i b=>b.length≤i) (fun i x b hi hlt hI=>by
  left
  refine ⟨_,rfl,?_,?_⟩
  ·show wC w t i b=_
   unfold wC
   rw [ifT (by simpa using hlt),zD,hi,Option.bind_some]
   show (yT x t).bind _=_
   rw [qO5 ha (hw.2 x (List.mem_of_getElem? hi)),Option.bind_some,wkS i (by omega)]
   cases zV s x with
   | true=>rw [ifT rfl,zJ (by simp; omega),Option.bind_some]; rfl
   | false=>rfl
  ·split <;> (try simp only [List.length_append,List.length_singleton]) <;> omega) (fun b hI=>by
  show wC w t w.Bodies.length b=_
  unfold wC
  rw [ifF (by simp)]
  rfl) (b0:=[]) (by simp)
 have e0:((0:Nat):Int)=0:=rfl
 rw [e0] at this
 rw [this,idxs_go,Option.bind_some,List.nil_append]
 rfl
def zA5 (w:T_impl_Weave) (ps:List Nat):List ByteArray:=ps.map fun i=>(w.Bodies[i]?.map (·.Line)).getD (ByteArray.mk #[])
theorem lines_go (w:T_impl_Weave):∀ (ps:List Int) (i:Nat) (out:List ByteArray),goE (ρ:=List ByteArray) (fun _ (b:List ByteArray) (x:Int)=>.inl (b++[(w.Bodies[x.toNat]?.map (·.Line)).getD (ByteArray.mk #[])])) id ps i out=out++ps.map (fun x=>(w.Bodies[x.toNat]?.map (·.Line)).getD (ByteArray.mk #[]))
 | [],_,out=>by simp [goE]
 | x :: l,i,out=>by
  simp only [goE]
  rw [lines_go w l (i+1)]
  simp
theorem qE5 {w:T_impl_Weave} {ps:List Nat} (hp:∀ i ∈ ps,i < w.Bodies.length) (hl:ps.length≤1000000000):uN w (kS ps)=some (zA5 w ps)∧vR w (kS ps)=some (zA5 w ps):=by
 have hil:=qO3 ps
 have hmem:∀ {i:Nat} {x:Int},(kS ps)[i]? = some x→0≤x∧x < w.Bodies.length∧∃ b,w.Bodies[x.toNat]? = some b:=fun {i x} h=>by
  obtain ⟨n,hn,rfl⟩:=List.mem_map.1 (List.mem_of_getElem? h)
  have:=hp n hn
  exact ⟨by omega,by omega,w.Bodies[n],by simp [this]⟩
 have e0:((0:Nat):Int)=0:=rfl
 have emap:(kS ps).map (fun x=>(w.Bodies[x.toNat]?.map (·.Line)).getD (ByteArray.mk #[]))=zA5 w ps:=by
  unfold kS zA5
  rw [List.map_map]
  rfl
 constructor
 ·unfold uN
  have:=loopE (body:=fun (s':Int×List ByteArray)=>jZ w (kS ps) s'.1 s'.2) (fun i b=>((i:Int),b)) (kS ps) (fun _ (b:List ByteArray) (x:Int)=>(.inl (b++[(w.Bodies[x.toNat]?.map (·.Line)).getD (ByteArray.mk #[])]):List ByteArray⊕List ByteArray)) id (fun i b=>b.length≤i) (fun i x b hi hlt hI=>by
   left
   obtain ⟨h1,h2,bd,h3⟩:=hmem hi
   refine ⟨_,rfl,?_,by simp; omega⟩
   show jZ w (kS ps) i b=_
   unfold jZ
   have hg:zF w.Bodies x=some bd:=by
    rw [show x=((x.toNat:Nat):Int) by omega,zD]
    simpa using h3
   rw [ifT (by simpa using hlt),zD,hi,Option.bind_some,hg,Option.bind_some,zJ (by simp; omega),Option.bind_some,wkS i (by omega),h3]
   rfl) (fun b hI=>by
   show jZ w (kS ps) (kS ps).length b=_
   unfold jZ
   rw [ifF (by simp)]
   rfl) (b0:=[]) (by simp)
  rw [e0] at this
  rw [this,lines_go,Option.bind_some,List.nil_append,emap]
  rfl
 ·unfold vR
  have:=loopE (body:=fun (s':Int×List ByteArray)=>yB w (kS ps) s'.1 s'.2) (fun i b=>((i:Int),b)) (kS ps) (fun _ (b:List ByteArray) (x:Int)=>(.inl (b++[(w.Bodies[x.toNat]?.map (·.Line)).getD (ByteArray.mk #[])]):List ByteArray⊕List ByteArray)) id (fun i b=>b.length≤i) (fun i x b hi hlt hI=>by
   left
   obtain ⟨h1,h2,bd,h3⟩:=hmem hi
   refine ⟨_,rfl,?_,by simp; omega⟩
   show yB w (kS ps) i b=_
   unfold yB
   have hg:zF w.Bodies x=some bd:=by
    rw [show x=((x.toNat:Nat):Int) by omega,zD]
    simpa using h3
   rw [ifT (by simpa using hlt),zD,hi,Option.bind_some,hg,Option.bind_some,zJ (by simp; omega),Option.bind_some,wkS i (by omega),h3]
   rfl) (fun b hI=>by
   show yB w (kS ps) (kS ps).length b=_
   unfold yB
   rw [ifF (by simp)]
   rfl) (b0:=[]) (by simp)
  rw [e0] at this
  rw [this,lines_go,Option.bind_some,List.nil_append,emap]
  rfl
end Go.TV.F
namespace Go.TV.F
open Go.TV
def zV7 (a b:Nat) (t:List (List Int)) (i:Int):Prop:=t.length=a+1∧∀ (k:Nat) (r:List Int),t[k]? = some r→i < k→r.length=b+1
theorem uP {α:Type} {l:List α} {i:Int} (h0:0≤i) (h1:i < l.length):∃ x,zF l i=some x∧l[i.toNat]? = some x:=by
 refine ⟨l[i.toNat]'(by omega),zC1 h0 h1,?_⟩
 rw [List.getElem?_eq_getElem]
theorem tab_row {a b:Nat} {t:List (List Int)} {i k:Int} (h:zV7 a b t i) (h0:0≤k) (h1:k≤a) (hk:i < k):∃ r,zF t k=some r∧r.length=b+1:=by
 obtain ⟨r,g1,g2⟩:=uP (l:=t) (i:=k) h0 (by rw [h.1]; omega)
 exact ⟨r,g1,h.2 _ r g2 (by omega)⟩
theorem tab_set {a b:Nat} {t:List (List Int)} {i j:Int} {r:List Int} (h:zV7 a b t i) (hr:r.length=b+1) (hj:i - 1≤j) (hi:0≤i):zV7 a b (t.set i.toNat r) (if j < i then j else i):=by
 refine ⟨by rw [List.length_set]; exact h.1,fun k r' hk hlt=>?_⟩
 rw [List.getElem?_set] at hk
 split at hk
 ·split at hk
  ·injection hk with hk
   rw [← hk]
   exact hr
  ·cases hk
 ·rename_i hne
  refine h.2 k r' hk ?_
  split at hlt <;> omega
theorem table_inner {a b:List ByteArray} (ha:a.length≤300) (hb:b.length≤300) {i:Int} (h0:0≤i) (h1:i≤a.length):∀ (n:Nat) (j:Int) (t:List (List Int)),j+1=n→n≤b.length→zV7 a.length b.length t (i - 1) →
  ∃ r,zB (fun (s':Int×(List (List Int)))=>xT a b i s'.1 s'.2) (j,t)=some r∧zV7 a.length b.length r (i - 1)
 | 0,j,t,hj,hn,ht=>by
  rw [zX]
  show ∃ r,(xT a b i j t).bind _=some r∧_
  unfold xT
  rw [ifF (decide_eq_false (by omega)),Option.bind_some,ifF rfl]
  exact ⟨t,rfl,ht⟩
 | n+1,j,t,hj,hn,ht=>by
  rw [zX]
  show ∃ r,(xT a b i j t).bind _=some r∧_
  by_cases hi:i < a.length
  ·have step:∃ t',xT a b i j t=some (.inl (j - 1,t'))∧zV7 a.length b.length t' (i - 1):=by
    unfold xT
    obtain ⟨r1,e1,l1⟩:=tab_row ht (k:=i+1) (by omega) (by omega) (by omega)
    obtain ⟨r0,e0,l0⟩:=tab_row ht (k:=i) (by omega) (by omega) (by omega)
    obtain ⟨x1,f1,_⟩:=uP (l:=r1) (i:=j) (by omega) (by omega)
    obtain ⟨x2,f2,_⟩:=uP (l:=r0) (i:=j+1) (by omega) (by omega)
    obtain ⟨x3,f3,_⟩:=uP (l:=a) (i:=i) (by omega) (by omega)
    obtain ⟨x4,f4,_⟩:=uP (l:=b) (i:=j) (by omega) (by omega)
    obtain ⟨x5,f5,_⟩:=uP (l:=r1) (i:=j+1) (by omega) (by omega)
    obtain ⟨x6,f6,_⟩:=uP (l:=r0) (i:=j) (by omega) (by omega)
    have w1:wk .i64 (i+1)=i+1:=zQ (by omega) (by omega)
    have w2:wk .i64 (j+1)=j+1:=zQ (by omega) (by omega)
    have w3:wk .i64 (j - 1)=j - 1:=zQ (by omega) (by omega)
    have j4:∀ x:Int,∃ t',zC6 i j t x=some (.inl (j - 1,t'))∧zV7 a.length b.length t' (i - 1):=fun x=>by
     unfold zC6
     rw [e0,Option.bind_some,f6,Option.bind_some,w3]
     refine ⟨_,rfl,?_⟩
     have:=tab_set (i:=i) (j:=i - 1) (r:=r0.set j.toNat x) (a:=a.length) (b:=b.length) (t:=t) ⟨ht.1,fun k r hk hlt=>ht.2 k r hk (by omega)⟩ (by rw [List.length_set]; exact l0) (by omega) h0
     rw [if_pos (by omega)] at this
     exact this
    have j3:∀ x:Int,∃ t',zC5 a b i j t x=some (.inl (j - 1,t'))∧zV7 a.length b.length t' (i - 1):=fun x=>by
     unfold zC5
     rw [f3,Option.bind_some,f4,Option.bind_some,w1,w2,e1,Option.bind_some,f5,Option.bind_some]
     split <;> exact j4 _
    rw [ifT (b:=decide (j≥0)) (decide_eq_true (by omega)),Option.bind_some,ifT (decide_eq_true hi),w1,w2,e1,Option.bind_some,f1,Option.bind_some,e0,Option.bind_some,f2,Option.bind_some]
    split <;> exact j3 _
   obtain ⟨t',s1,s2⟩:=step
   rw [s1]
   exact table_inner ha hb h0 h1 n (j - 1) t' (by omega) (by omega) s2
  ·unfold xT
   rw [ifT (b:=decide (j≥0)) (decide_eq_true (by omega)),Option.bind_some,ifF (decide_eq_false hi)]
   exact ⟨t,rfl,ht⟩
theorem table_outer {a b:List ByteArray} (ha:a.length≤300) (hb:b.length≤300):∀ (n:Nat) (i:Int) (t:List (List Int)),i+1=n→n≤a.length+1→zV7 a.length b.length t i →
  ∃ r,zB (fun (s':Int×(List (List Int)))=>kX a b s'.1 s'.2) (i,t)=some r∧zV7 a.length b.length r (-1)
 | 0,i,t,hi,hn,ht=>by
  rw [zX]
  show ∃ r,(kX a b i t).bind _=some r∧_
  unfold kX
  rw [ifF (decide_eq_false (by omega))]
  have:i = -1:=by omega
  subst this
  exact ⟨t,rfl,ht⟩
 | n+1,i,t,hi,hn,ht=>by
  rw [zX]
  show ∃ r,(kX a b i t).bind _=some r∧_
  have step:∃ t',kX a b i t=some (.inl (i - 1,t'))∧zV7 a.length b.length t' (i - 1):=by
   unfold kX
   obtain ⟨x,f1,_⟩:=uP (l:=t) (i:=i) (by omega) (by rw [ht.1]; omega)
   have w1:wk .i64 ((b.length:Int)+1)=(b.length:Int)+1:=zQ (by omega) (by omega)
   have w2:wk .i64 ((b.length:Int) - 1)=(b.length:Int) - 1:=zQ (by omega) (by omega)
   rw [ifT (decide_eq_true (by omega)),w1,w2,qD7 (by omega) (by omega),Option.bind_some,f1,Option.bind_some]
   have hz:zV7 a.length b.length (t.set i.toNat (List.replicate ((b.length:Int)+1).toNat 0)) (i - 1):=by
    have:=tab_set (i:=i) (j:=i - 1) (r:=List.replicate ((b.length:Int)+1).toNat (0:Int)) ht (by rw [List.length_replicate]; omega) (by omega) (by omega)
    rw [if_pos (by omega)] at this
    exact this
   obtain ⟨r,g1,g2⟩:=table_inner ha hb (i:=i) (by omega) (by omega) b.length ((b.length:Int) - 1) _ (by omega) (Nat.le_refl _) hz
   rw [g1,Option.bind_some]
   unfold zQ4
   rw [zQ (x:=i - 1) (by omega) (by omega)]
   exact ⟨r,rfl,g2⟩
  obtain ⟨t',s1,s2⟩:=step
  rw [s1]
  exact table_outer ha hb n (i - 1) t' (by omega) (by omega) s2
theorem table_ok {a b:List ByteArray} (ha:a.length≤300) (hb:b.length≤300):∃ t,zR4 a b=some t∧zV7 a.length b.length t (-1):=by
 unfold zR4
 rw [zQ (x:=(a.length:Int)+1) (by omega) (by omega),qD7 (by omega) (by omega),Option.bind_some]
 obtain ⟨r,h1,h2⟩:=table_outer ha hb (a.length+1) (a.length:Int) (List.replicate ((a.length:Int)+1).toNat []) (by omega) (Nat.le_refl _) ⟨by rw [List.length_replicate]; omega,fun k r hk hlt=>by
  have:=(List.getElem?_eq_some_iff.1 hk).1
  rw [List.length_replicate] at this
  omega⟩
 rw [h1,Option.bind_some]
 exact ⟨r,rfl,h2⟩
def wayOk (n m:Nat) (l:List Int):Prop:=l.length=m∧∀ x ∈ l,x = -1∨(0≤x∧x < n)
theorem all_lines {l:List ByteArray} {most:Int} (hm:(l.length:Int)≤most) (hll:l.length≤1000000000) (hl:∀ x ∈ l,qK x=true):zG6 l most=some true:=by
 have hsz:∀ x ∈ l,x.size≤1000000000:=fun x hx=>by
  have:=hl x hx
  unfold qK at this
  simp only [Bool.and_eq_true,decide_eq_true_eq] at this
  omega
 unfold zG6
 rw [ifF (decide_eq_false (by omega))]
 have:=zV4 (body:=fun s'=>yI l s') (good:=.inr ()) (bad:=.inl false) l qK (fun i x hi hil=>by
  unfold yI
  rw [ifT (by simpa using hil),zD,hi,Option.bind_some,lineS_eq (hsz x (List.mem_of_getElem? hi)),Option.bind_some,wkS i (by omega)]
  cases qK x <;> rfl) (by
  unfold yI
  rw [ifF (by simp)])
 rw [this,if_pos (List.all_eq_true.2 hl)]
 rfl
theorem align_ok {a b:List ByteArray} (ha:a.length≤300) (hb:b.length≤300) (hla:∀ x ∈ a,qK x=true) (hlb:∀ x ∈ b,qK x=true):∃ l,zQ1 a b=some l∧wayOk a.length b.length l:=by
 unfold zQ1 qE1
 rw [all_lines (by omega) (by omega) hla,all_lines (by omega) (by omega) hlb]
 simp only [Option.bind_some,Bool.not_true,Bool.false_eq_true,if_false]
 obtain ⟨t,h1,h2⟩:=table_ok ha hb
 rw [h1,Option.bind_some]
 obtain ⟨r,g1,g2,g3⟩:=loopK1 (f:=fun (s':Int×Int×(List Int))=>zR3 a b t s'.1 s'.2.1 s'.2.2) (fun s=>0≤s.1∧s.1≤a.length∧0≤s.2.1∧s.2.1≤b.length∧(s.2.2.length:Int)=s.2.1∧∀ x ∈ s.2.2,x = -1∨(0≤x∧x < a.length)) (fun s=>((a.length:Int) - s.1+((b.length:Int) - s.2.1)).toNat)
  (fun r=>(0≤r.1∧r.1≤b.length)∧(r.2.length:Int)=r.1∧∀ x ∈ r.2,x = -1∨(0≤x∧x < a.length)) (s:=(0,0,[])) ⟨by simp,by simp,by simp,by simp,by simp,by simp⟩ (fun s hs=>by
  obtain ⟨i,j,out⟩:=s
  simp only at hs ⊢
  obtain ⟨h0,h1',h2',h3,h4,h5⟩:=hs
  unfold zR3
  by_cases q1:i < a.length
  ·by_cases q2:j < b.length
   ·obtain ⟨x,f1,_⟩:=uP (l:=a) (i:=i) h0 q1
    obtain ⟨y,f2,_⟩:=uP (l:=b) (i:=j) h2' q2
    have w1:wk .i64 (i+1)=i+1:=zQ (by omega) (by omega)
    have w2:wk .i64 (j+1)=j+1:=zQ (by omega) (by omega)
    rw [ifT (b:=decide (i < (a.length:Int))) (decide_eq_true q1),Option.bind_some,ifT (decide_eq_true q2),f1,Option.bind_some,f2,Option.bind_some,w1,w2]
    left
    by_cases q3:(x.toList == y.toList)=true
    ·rw [ifT q3,zJ (by simp; omega),Option.bind_some]
     refine ⟨_,rfl,⟨by simp only; omega,by simp only; omega,by simp only; omega,by simp only; omega,by simp only [List.length_append,List.length_singleton]; omega,fun z hz=>?_⟩,by simp only; omega⟩
     rcases List.mem_append.1 hz with hz | hz
     ·exact h5 z hz
     ·rw [List.mem_singleton.1 hz]
      exact .inr ⟨h0,q1⟩
    ·have q3:(x.toList == y.toList)=false:=by simpa using q3
     obtain ⟨r1,e1,l1⟩:=tab_row h2 (k:=i+1) (by omega) (by omega) (by omega)
     obtain ⟨r0,e0,l0⟩:=tab_row h2 (k:=i) (by omega) (by omega) (by omega)
     obtain ⟨x1,f3,_⟩:=uP (l:=r1) (i:=j) (by omega) (by omega)
     obtain ⟨x2,f4,_⟩:=uP (l:=r0) (i:=j+1) (by omega) (by omega)
     rw [ifF q3,e1,Option.bind_some,f3,Option.bind_some,e0,Option.bind_some,f4,Option.bind_some]
     by_cases q4:x1≥x2
     ·rw [ifT (decide_eq_true q4)]
      exact ⟨_,rfl,⟨by simp only; omega,by simp only; omega,h2',h3,h4,h5⟩,by simp only; omega⟩
     ·rw [ifF (decide_eq_false q4),zJ (by simp; omega),Option.bind_some]
      refine ⟨_,rfl,⟨h0,h1',by simp only; omega,by simp only; omega,by simp only [List.length_append,List.length_singleton]; omega,fun z hz=>?_⟩,by simp only; omega⟩
      rcases List.mem_append.1 hz with hz | hz
      ·exact h5 z hz
      ·exact .inl (List.mem_singleton.1 hz)
   ·right
    rw [ifT (b:=decide (i < (a.length:Int))) (decide_eq_true q1),Option.bind_some,ifF (decide_eq_false q2)]
    exact ⟨_,rfl,⟨h2',h3⟩,h4,h5⟩
  ·right
   rw [ifF (b:=decide (i < (a.length:Int))) (decide_eq_false q1),Option.bind_some,ifF rfl]
   exact ⟨_,rfl,⟨h2',h3⟩,h4,h5⟩)
 rw [g1,Option.bind_some]
 unfold zY8
 obtain ⟨r2,k1,k2,k3⟩:=loopK1 (f:=fun (s':Int×(List Int))=>zQ9 b s'.1 s'.2) (fun s=>0≤s.1∧s.1≤b.length∧(s.2.length:Int)=s.1∧∀ x ∈ s.2,x = -1∨(0≤x∧x < a.length)) (fun s=>((b.length:Int) - s.1).toNat)
  (fun r=>r.length=b.length∧∀ x ∈ r,x = -1∨(0≤x∧x < a.length)) (s:=(r.1,r.2)) ⟨g2.1,g2.2,g3.1,g3.2⟩ (fun s hs=>by
  obtain ⟨j,out⟩:=s
  simp only at hs ⊢
  obtain ⟨h0,h1',h2',h3⟩:=hs
  unfold zQ9
  by_cases q2:j < b.length
  ·left
   rw [ifT (decide_eq_true q2),zJ (by simp; omega),Option.bind_some,zQ (by omega) (by omega)]
   refine ⟨_,rfl,⟨by simp only; omega,by simp only; omega,by simp only [List.length_append,List.length_singleton]; omega,fun z hz=>?_⟩,by simp only; omega⟩
   rcases List.mem_append.1 hz with hz | hz
   ·exact h3 z hz
   ·exact .inl (List.mem_singleton.1 hz)
  ·right
   rw [ifF (decide_eq_false q2)]
   exact ⟨_,rfl,by omega,h3⟩)
 rw [k1,Option.bind_some]
 exact ⟨r2,rfl,k2,k3⟩
end Go.TV.F
namespace Go.TV.F
open Go.TV
theorem qL7 {g:List (List Int)} (hg:gOk g=true) {l:List Int} (hl:∀ x ∈ l,0≤x∧x < (g.length:Int)):agree (uZ g l) (orL (qL g g.length) l):=by
 refine ⟨by rw [setL_len]; have:=jH hg; omega,fun u=>?_⟩
 rw [Bool.eq_iff_iff,setL_get hg,qJ6,List.any_eq_true]
 constructor
 ·rintro ⟨x,h1,h2,h3,h4⟩
  exact ⟨x,h1,h4⟩
 ·rintro ⟨x,h1,h4⟩
  exact ⟨x,h1,(hl x h1).1,(hl x h1).2,h4⟩
theorem orL_one (c:List Nat) (v:Int):orL c [v]=c.getD v.toNat 0:=by
 unfold orL
 simp
theorem agree_one {g:List (List Int)} (hg:gOk g=true) {v:Int} (h0:0≤v) (h1:v < (g.length:Int)):agree (uZ g [v]) (clo g v.toNat):=by
 have:=qL7 hg (l:=[v]) (fun x hx=>by
  obtain rfl:=List.mem_singleton.1 hx
  exact ⟨h0,h1⟩)
 rw [orL_one] at this
 exact this
def zK9 (g:List (List Int)) (d:Int):Nat:=orL (qL g g.length) (g.getD d.toNat [])
def bodB (g:List (List Int)) (born:List Int) (b:T_impl_Body):Bool:=
 qK b.Line && (decide (0≤b.Ins) && decide (b.Ins≤(g.length:Int) - 1)) && (b.Ord == born.getD b.Ins.toNat 0) && jW b.Dels g.length && b.Dels.all fun d=>zV (zK9 g d) b
def bstep (g:List (List Int)) (i:Nat) (born:List Int) (b:T_impl_Body):List Int⊕(Bool⊕List Int):=
 if bodB g born b=true then .inl (born.set b.Ins.toNat (born.getD b.Ins.toNat 0+1)) else .inr (.inl false)
def zV5 (w:T_impl_Weave):Bool⊕List Int:=goE (bstep w.Parents) .inr w.Bodies 0 (List.replicate w.Parents.length 0)
def finB (w:T_impl_Weave) (born:List Int):Bool:=(List.range w.Parents.length).all fun v=>decide (born.getD v 0≤80) && decide ((places (clo w.Parents v) w).length≤80)
def wOk (w:T_impl_Weave):Bool:=gOk w.Parents && decide (w.Bodies.length≤300) && match zV5 w with
 | .inl b=>b
 | .inr born=>finB w born
theorem us_get {c:List Nat} {v:Int} (h0:0≤v) (h1:v < (c.length:Int)):zF (us c) v=some ((c.getD v.toNat 0:Nat):Int):=by
 have hl:(us c).length=c.length:=by simp [us]
 rw [zC1 h0 (by omega)]
 congr 1
 simp only [us,List.getElem_map]
 rw [List.getD_eq_getElem?_getD,List.getElem?_eq_getElem (by omega)]
 rfl
theorem goE_inl {α β ρ:Type} {step:Nat→β→α→β⊕ρ} {fin:β→ρ} (J:ρ→Prop) (I:Nat→β→Prop):∀ (l:List α) (i:Nat) (b:β),I i b→(∀ i x b,I i b→match step i b x with | .inl b'=>I (i+1) b' | .inr r=>J r)→(∀ b i,I i b→J (fin b))→J (goE step fin l i b)
 | [],i,b,h,_,hf=>hf b i h
 | x :: l,i,b,h,hs,hf=>by
  have:=hs i x b h
  simp only [goE]
  split
  ·rename_i b' hb
   rw [hb] at this
   exact goE_inl J I l (i+1) b' this hs hf
  ·rename_i r hr
   rw [hr] at this
   exact this
def bornI (n:Nat) (i:Nat) (born:List Int):Prop:=born.length=n∧∀ v,0≤born.getD v 0∧born.getD v 0≤i
theorem bornI_0 (n:Nat):bornI n 0 (List.replicate n 0):=⟨by simp,fun v=>by
 rw [List.getD_eq_getElem?_getD,List.getElem?_replicate]
 split <;> simp⟩
theorem qL5 {α:Type} (l:List α) (v u:Nat) (a d:α):(l.set v a).getD u d=if v=u∧u < l.length then a else l.getD u d:=by
 simp only [List.getD_eq_getElem?_getD,List.getElem?_set]
 by_cases h:v=u
 ·subst h
  by_cases h2:v < l.length
  ·simp [h2]
  ·simp [h2]
 ·simp [h]
theorem bornI_set {n i:Nat} {born:List Int} (h:bornI n i born) {v:Nat}:bornI n (i+1) (born.set v (born.getD v 0+1)):=by
 refine ⟨by rw [List.length_set]; exact h.1,fun u=>?_⟩
 have hu:=h.2 u
 have hv:=h.2 v
 rw [qL5]
 split <;> omega
theorem born_get {n i:Nat} {born:List Int} (h:bornI n i born) {v:Int} (h0:0≤v) (h1:v≤(n:Int) - 1):zF born v=some (born.getD v.toNat 0):=by
 have:=h.1
 rw [zC1 h0 (by omega),List.getD_eq_getElem?_getD,List.getElem?_eq_getElem (by omega)]
 rfl
theorem bornOf_I {w:T_impl_Weave} (hl:w.Bodies.length≤300):match zV5 w with | .inl b=>b=false | .inr born=>born.length=w.Parents.length∧∀ v,0≤born.getD v 0:=by
 unfold zV5
 refine goE_inl (J:=fun (r:Bool⊕List Int)=>match r with | .inl b=>b=false | .inr born=>born.length=w.Parents.length∧∀ v,0≤born.getD v 0) (bornI w.Parents.length) w.Bodies 0 _ (bornI_0 _) (fun i x b hI=>?_) (fun b i hI=>⟨hI.1,fun v=>(hI.2 v).1⟩)
 unfold bstep
 by_cases q:bodB w.Parents b x=true
 ·rw [if_pos q]
  exact bornI_set hI
 ·rw [if_neg q]
theorem bodiesI {w:T_impl_Weave} (hg:gOk w.Parents=true) (hw:qE8 w) (hb:w.Bodies.length≤300) :
  zB (fun (s':Int×(List Int))=>jX w (us (qL w.Parents w.Parents.length)) s'.1 s'.2) (0,List.replicate w.Parents.length 0)=some (zV5 w):=by
 have hgl:=jH hg
 have hcl:(qL w.Parents w.Parents.length).length=w.Parents.length:=zU4 _ _
 have hul:(us (qL w.Parents w.Parents.length)).length=w.Parents.length:=by rw [show (us (qL w.Parents w.Parents.length)).length=(qL w.Parents w.Parents.length).length by simp [us],hcl]
 have hlt:=qK6 hgl w.Parents.length (Nat.le_refl _)
 have:=loopE (body:=fun (s':Int×(List Int))=>jX w (us (qL w.Parents w.Parents.length)) s'.1 s'.2) (fun i b=>((i:Int),b)) w.Bodies (bstep w.Parents) .inr (bornI w.Parents.length) (fun i x born hi hil hI=>by
  have hx:=List.mem_of_getElem? hi
  have hdl:=hw.2 x hx
  have step:jX w (us (qL w.Parents w.Parents.length)) i born=some (if bodB w.Parents born x=true then .inl (((i+1:Nat):Int),born.set x.Ins.toNat (born.getD x.Ins.toNat 0+1)) else .inr (.inl false)):=by
   unfold jX bodB
   rw [ifT (by simpa using hil),zD,hi,Option.bind_some,lineI_eq,Option.bind_some,hul,qQ6 (by omega) (by omega),ascends_eq hdl (by omega) (by omega)]
   cases qK x.Line with
   | false=>rfl
   | true =>
    have e1:(decide (0≤x.Ins) && decide (x.Ins < (w.Parents.length:Int)))=(decide (0≤x.Ins) && decide (x.Ins≤(w.Parents.length:Int) - 1)):=by
     rw [Bool.eq_iff_iff]
     simp
     omega
    simp only [Option.bind_some,Bool.not_true,Bool.false_eq_true,if_false,e1]
    cases q1:(decide (0≤x.Ins) && decide (x.Ins≤(w.Parents.length:Int) - 1)) with
    | false=>rfl
    | true =>
     simp only [Bool.and_eq_true,decide_eq_true_eq] at q1
     simp only [Option.bind_some,Bool.not_true,Bool.false_eq_true,if_false,born_get hI q1.1 q1.2]
     cases q2:(x.Ord == born.getD x.Ins.toNat 0) with
     | false =>
      have:(x.Ord != born.getD x.Ins.toNat 0)=true:=by simp only [bne,q2]; rfl
      rw [this]
      rfl
     | true =>
      have:(x.Ord != born.getD x.Ins.toNat 0)=false:=by simp only [bne,q2]; rfl
      rw [this]
      simp only [Option.bind_some,Bool.false_eq_true,if_false]
      cases q3:jW x.Dels (w.Parents.length:Int) with
      | false=>rfl
      | true =>
       simp only [Option.bind_some,Bool.not_true,Bool.false_eq_true,if_false]
       have hloop:=zV4 (body:=fun s'=>zB6 w (us (qL w.Parents w.Parents.length)) x s') (good:=.inr ()) (bad:=.inl (.inr (.inl false))) x.Dels (fun d=>zV (zK9 w.Parents d) x) (fun k d hk hkl=>by
        have hdm:=wX q3 (List.mem_of_getElem? hk)
        have hdn:d.toNat < w.Parents.length:=by omega
        have hgd:zF w.Parents d=some (w.Parents[d.toNat]'hdn):=zC1 hdm.1 (by omega)
        have hgD:w.Parents.getD d.toNat []=w.Parents[d.toNat]'hdn:=by rw [List.getD_eq_getElem?_getD,List.getElem?_eq_getElem hdn]; rfl
        unfold zB6
        rw [ifT (by simpa using hkl),zD,hk,Option.bind_some,hgd,Option.bind_some,unionOf_eq hlt (fun y hy=>by
         have:=zG7 hg hdn hy
         rw [hcl]
         omega) (by have:=(zU2 hg hdn).1; omega),Option.bind_some]
        show (wS x _).bind _=_
        rw [isLive_eq (orL_lt hlt _) hdl,Option.bind_some,wkS k (by omega)]
        unfold zK9
        rw [hgD]
        cases zV (orL (qL w.Parents w.Parents.length) w.Parents[d.toNat]) x <;> rfl) (by
        unfold zB6
        rw [ifF (by simp)])
       rw [hloop,Option.bind_some]
       have hbv:=hI.2 x.Ins.toNat
       rw [zQ (x:=born.getD x.Ins.toNat 0+1) (by omega) (by omega)]
       simp only [Bool.and_true,Bool.true_and]
       cases x.Dels.all (fun d=>zV (zK9 w.Parents d) x) with
       | false=>rfl
       | true =>
        simp only [if_true]
        unfold zQ0
        rw [wkS i (by omega)]
  unfold bstep
  by_cases q:bodB w.Parents born x=true
  ·left
   refine ⟨_,if_pos q,?_,bornI_set hI⟩
   show jX w _ i born=_
   rw [step,if_pos q]
  ·right
   refine ⟨_,if_neg q,?_⟩
   show jX w _ i born=_
   rw [step,if_neg q]) (fun b hI=>by
  show jX w _ w.Bodies.length b=_
  unfold jX
  rw [ifF (by simp)]) (bornI_0 _)
 exact this
theorem bodiesS {w:T_impl_Weave} (hg:gOk w.Parents=true) (hw:qE8 w) (hb:w.Bodies.length≤300) (hx:∀ b ∈ w.Bodies,b.Line.size≤1000000000) :
  zB (fun (s':Int×(List Int))=>xO w (w.Parents.map (uZ w.Parents)) s'.1 s'.2) (0,List.replicate w.Parents.length 0)=some (zV5 w):=by
 have hgl:=jH hg
 have:=loopE (body:=fun (s':Int×(List Int))=>xO w (w.Parents.map (uZ w.Parents)) s'.1 s'.2) (fun i b=>((i:Int),b)) w.Bodies (bstep w.Parents) .inr (bornI w.Parents.length) (fun i x born hi hil hI=>by
  have hxm:=List.mem_of_getElem? hi
  have hdl:=hw.2 x hxm
  have step:xO w (w.Parents.map (uZ w.Parents)) i born=some (if bodB w.Parents born x=true then .inl (((i+1:Nat):Int),born.set x.Ins.toNat (born.getD x.Ins.toNat 0+1)) else .inr (.inl false)):=by
   unfold xO bodB
   rw [ifT (by simpa using hil),zD,hi,Option.bind_some,lineS_eq (hx x hxm),Option.bind_some,zQ (x:=(w.Parents.length:Int) - 1) (by omega) (by omega),qF7,qO2 hdl (by omega) (by omega)]
   cases qK x.Line with
   | false=>rfl
   | true =>
    simp only [Option.bind_some,Bool.not_true,Bool.false_eq_true,if_false]
    cases q1:(decide (0≤x.Ins) && decide (x.Ins≤(w.Parents.length:Int) - 1)) with
    | false=>rfl
    | true =>
     simp only [Bool.and_eq_true,decide_eq_true_eq] at q1
     simp only [Option.bind_some,Bool.not_true,Bool.false_eq_true,if_false,born_get hI q1.1 q1.2]
     cases q2:(x.Ord == born.getD x.Ins.toNat 0) with
     | false =>
      have:(x.Ord != born.getD x.Ins.toNat 0)=true:=by simp only [bne,q2]; rfl
      rw [this]
      rfl
     | true =>
      have:(x.Ord != born.getD x.Ins.toNat 0)=false:=by simp only [bne,q2]; rfl
      rw [this]
      simp only [Option.bind_some,Bool.false_eq_true,if_false]
      cases q3:jW x.Dels (w.Parents.length:Int) with
      | false=>rfl
      | true =>
       simp only [Option.bind_some,Bool.not_true,Bool.false_eq_true,if_false]
       have hloop:=zV4 (body:=fun s'=>zE4 (w.Parents.map (uZ w.Parents)) x s') (good:=.inr ()) (bad:=.inl (.inr (.inl false))) x.Dels (fun d=>zV (zK9 w.Parents d) x) (fun k d hk hkl=>by
        have hdm:=wX q3 (List.mem_of_getElem? hk)
        have hdn:d.toNat < w.Parents.length:=by omega
        have hgd:zF (w.Parents.map (uZ w.Parents)) d=some (uZ w.Parents (w.Parents[d.toNat]'hdn)):=by
         rw [zC1 hdm.1 (by rw [List.length_map]; omega),List.getElem_map]
        have hgD:w.Parents.getD d.toNat []=w.Parents[d.toNat]'hdn:=by rw [List.getD_eq_getElem?_getD,List.getElem?_eq_getElem hdn]; rfl
        unfold zE4
        rw [ifT (by simpa using hkl),zD,hk,Option.bind_some,hgd,Option.bind_some]
        show (yT x _).bind _=_
        rw [qO5 (qL7 hg (fun y hy=>by
         have:=zG7 hg hdn hy
         omega)) hdl,Option.bind_some,wkS k (by omega)]
        unfold zK9
        rw [hgD]
        cases zV (orL (qL w.Parents w.Parents.length) w.Parents[d.toNat]) x <;> rfl) (by
        unfold zE4
        rw [ifF (by simp)])
       rw [hloop,Option.bind_some]
       have hbv:=hI.2 x.Ins.toNat
       rw [zQ (x:=born.getD x.Ins.toNat 0+1) (by omega) (by omega)]
       simp only [Bool.and_true,Bool.true_and]
       cases x.Dels.all (fun d=>zV (zK9 w.Parents d) x) with
       | false=>rfl
       | true =>
        simp only [if_true]
        unfold zT4
        rw [wkS i (by omega)]
  unfold bstep
  by_cases q:bodB w.Parents born x=true
  ·left
   refine ⟨_,if_pos q,?_,bornI_set hI⟩
   show xO w _ i born=_
   rw [step,if_pos q]
  ·right
   refine ⟨_,if_neg q,?_⟩
   show xO w _ i born=_
   rw [step,if_neg q]) (fun b hI=>by
  show xO w _ w.Bodies.length b=_
  unfold xO
  rw [ifF (by simp)]) (bornI_0 _)
 exact this
theorem zW4 (s:Nat) (w:T_impl_Weave):(places s w).length≤w.Bodies.length:=idxs_len _ _ _
theorem bodiesOkI {w:T_impl_Weave} (hg:gOk w.Parents=true) (hw:qE8 w) (hb:w.Bodies.length≤300):zI7 w (us (qL w.Parents w.Parents.length))=some (match zV5 w with | .inl b=>b | .inr born=>finB w born):=by
 have hgl:=jH hg
 have hcl:(qL w.Parents w.Parents.length).length=w.Parents.length:=zU4 _ _
 have hul:(us (qL w.Parents w.Parents.length)).length=w.Parents.length:=by rw [show (us (qL w.Parents w.Parents.length)).length=(qL w.Parents w.Parents.length).length by simp [us],hcl]
 unfold zI7
 rw [hul,qD7 (by omega) (by omega),Option.bind_some,Int.toNat_natCast,bodiesI hg hw hb,Option.bind_some]
 have hbo:=bornOf_I (w:=w) hb
 cases h:zV5 w with
 | inl b=>rfl
 | inr born =>
  rw [h] at hbo
  show zI2 w _ born=some (finB w born)
  unfold zI2 finB
  have hloop:=zV4 (body:=fun s'=>zC4 w (us (qL w.Parents w.Parents.length)) born s') (good:=.inr ()) (bad:=.inl false) (List.range w.Parents.length) (fun v=>decide (born.getD v 0≤80) && decide ((places (clo w.Parents v) w).length≤80)) (fun i v hv hvl=>by
   rw [List.length_range] at hvl
   rw [List.getElem?_range hvl] at hv
   obtain rfl:=zso hv
   unfold zC4
   have hc:zF (us (qL w.Parents w.Parents.length)) (i:Int)=some ((clo w.Parents i:Nat):Int):=by
    rw [us_get (by omega) (by omega),Int.toNat_natCast]
    rfl
   have hbg:zF born (i:Int)=some (born.getD i 0):=by
    rw [zD,List.getD_eq_getElem?_getD,List.getElem?_eq_getElem (by omega)]
    rfl
   rw [hul,ifT (by simpa using hvl),hc,Option.bind_some,hbg,Option.bind_some]
   have hlv:wF (T_impl_Weave.mk w.Parents w.Bodies) ((clo w.Parents i:Nat):Int)=some (kS (places (clo w.Parents i) w)):=liveIn_eq (clo_lt hg i) hw
   rw [hlv,Option.bind_some,qO3,wkS i (by omega)]
   by_cases q1:born.getD i 0≤80
   ·rw [ifF (b:=decide (born.getD i 0 > 80)) (decide_eq_false (by omega)),decide_eq_true q1,Option.bind_some,Bool.true_and]
    by_cases q2:(places (clo w.Parents i) w).length≤80
    ·rw [ifF (by simp; omega),decide_eq_true q2]
     rfl
    ·rw [ifT (by simp; omega),decide_eq_false q2]
     rfl
   ·rw [ifT (b:=decide (born.getD i 0 > 80)) (decide_eq_true (by omega)),decide_eq_false q1,Option.bind_some]
    rfl) (by
   unfold zC4
   rw [ifF (by simp [hul])])
  rw [hloop,Option.bind_some]
  cases (List.range w.Parents.length).all (fun v=>decide (born.getD v 0≤80) && decide ((places (clo w.Parents v) w).length≤80)) <;> rfl
theorem weaveOkI {w:T_impl_Weave} (hl:w.Parents.length≤10000000) (hw:qE8 w):zD4 w=some (wOk w):=by
 have hwl:=hw.1
 unfold zD4 wOk
 rw [graphOkI_eq hl,Option.bind_some]
 by_cases q1:w.Bodies.length≤300
 ·rw [ifT (b:=decide ((w.Bodies.length:Int)≤300)) (by simp; omega),decide_eq_true q1]
  cases q2:gOk w.Parents with
  | false=>rfl
  | true =>
   simp only [Option.bind_some,if_true]
   rw [qN1 q2,Option.bind_some]
   show (zI7 w _).bind _ >>= _=_
   rw [bodiesOkI q2 hw q1]
   rfl
 ·rw [ifF (b:=decide ((w.Bodies.length:Int)≤300)) (by simp; omega),decide_eq_false q1]
  cases gOk w.Parents <;> rfl
theorem proper_loop {w:T_impl_Weave} (hg:gOk w.Parents=true):zB (fun (s':Int×(List (List Bool)))=>wL w s'.1 s'.2) (0,[])=some (w.Parents.map (uZ w.Parents)):=by
 have hgl:=jH hg
 have:=loopE (body:=fun (s':Int×(List (List Bool)))=>wL w s'.1 s'.2) (fun i b=>((i:Int),b)) w.Parents (fun _ (b:List (List Bool)) x=>(.inl (b++[uZ w.Parents x]):List (List Bool)⊕List (List Bool))) id (fun i b=>b.length=i) (fun i x b hi hil hI=>by
  left
  refine ⟨_,rfl,?_,by simp [hI]⟩
  show wL w i b=_
  unfold wL
  have hxl:x.length≤4:=by
   have:=(zU2 hg hil).1
   rw [List.getElem?_eq_getElem hil] at hi
   obtain rfl:=zso hi
   exact this
  rw [ifT (by simpa using hil),zD,hi,Option.bind_some,qA9 hg (by omega),Option.bind_some,zJ (by simp; omega),Option.bind_some,wkS i (by omega)]) (fun b hI=>by
  show wL w w.Parents.length b=_
  unfold wL
  rw [ifF (by simp)]
  rfl) (b0:=[]) rfl
 have key:∀ (l:List (List Int)) (i:Nat) (out:List (List Bool)),goE (ρ:=List (List Bool)) (fun _ (b:List (List Bool)) x=>.inl (b++[uZ w.Parents x])) id l i out=out++l.map (uZ w.Parents):=by
  intro l
  induction l with
  | nil=>intro i out; simp [goE]
  | cons x l ih=>intro i out; simp only [goE]; rw [ih]; simp
 have e0:((0:Nat):Int)=0:=rfl
 rw [e0] at this
 rw [this,key,List.nil_append]
theorem closureS {w:T_impl_Weave} (hg:gOk w.Parents=true) (v:Int):yR w v=some (uZ w.Parents [v]):=by
 unfold yR
 rw [qA9 hg (by simp),Option.bind_some]
theorem weaveOkS {w:T_impl_Weave} (hl:w.Parents.length≤10000000) (hw:qE8 w) (hx:∀ b ∈ w.Bodies,b.Line.size≤1000000000):zO0 w=some (wOk w):=by
 have hwl:=hw.1
 unfold zO0 wOk
 rw [graphOkS_eq hl,Option.bind_some]
 cases q2:gOk w.Parents with
 | false=>rfl
 | true =>
  simp only [Bool.not_true,Bool.false_eq_true,if_false,Option.bind_some,Bool.true_and]
  by_cases q1:w.Bodies.length≤300
  ·rw [ifF (b:=decide ((w.Bodies.length:Int) > 300)) (by simp; omega),decide_eq_true q1,Bool.true_and]
   have hgl:=jH q2
   rw [qD7 (by omega) (by omega),Option.bind_some,Int.toNat_natCast,proper_loop q2,Option.bind_some]
   unfold zT5
   rw [bodiesS q2 hw q1 hx,Option.bind_some]
   have hbo:=bornOf_I (w:=w) q1
   cases h:zV5 w with
   | inl b=>rfl
   | inr born =>
    rw [h] at hbo
    show zK0 w born=some (finB w born)
    unfold zK0 finB
    have hloop:=zV4 (body:=fun s'=>zE2 w born s') (good:=.inr ()) (bad:=.inl false) (List.range w.Parents.length) (fun v=>decide (born.getD v 0≤80) && decide ((places (clo w.Parents v) w).length≤80)) (fun i v hv hvl=>by
     rw [List.length_range] at hvl
     rw [List.getElem?_range hvl] at hv
     obtain rfl:=zso hv
     unfold zE2
     have hbg:zF born (i:Int)=some (born.getD i 0):=by
      rw [zD,List.getD_eq_getElem?_getD,List.getElem?_eq_getElem (by omega)]
      rfl
     rw [ifT (by simpa using hvl),hbg,Option.bind_some]
     have hcl:yR (T_impl_Weave.mk w.Parents w.Bodies) (i:Int)=some (uZ w.Parents [(i:Int)]):=closureS (w:=w) q2 _
     have hpl:xZ (T_impl_Weave.mk w.Parents w.Bodies) (uZ w.Parents [(i:Int)])=some (kS (places (clo w.Parents i) w)):=by
      have:=agree_one q2 (v:=(i:Int)) (by omega) (by omega)
      rw [Int.toNat_natCast] at this
      exact qD3 this hw
     rw [hcl]
     simp only [Option.bind_some]
     rw [hpl]
     simp only [Option.bind_some]
     rw [qO3,wkS i (by omega)]
     by_cases q1:born.getD i 0≤80
     ·rw [ifF (b:=decide (born.getD i 0 > 80)) (decide_eq_false (by omega)),decide_eq_true q1,Option.bind_some,Bool.true_and]
      by_cases q2:(places (clo w.Parents i) w).length≤80
      ·rw [ifF (by simp; omega),decide_eq_true q2]
       rfl
      ·rw [ifT (by simp; omega),decide_eq_false q2]
       rfl
     ·rw [ifT (b:=decide (born.getD i 0 > 80)) (decide_eq_true (by omega)),decide_eq_false q1,Option.bind_some]
      rfl) (by
     unfold zE2
     rw [ifF (by simp)])
    rw [hloop,Option.bind_some]
    cases (List.range w.Parents.length).all (fun v=>decide (born.getD v 0≤80) && decide ((places (clo w.Parents v) w).length≤80)) <;> rfl
  ·rw [ifT (b:=decide ((w.Bodies.length:Int) > 300)) (by simp; omega),decide_eq_false q1]
   rfl
end Go.TV.F
namespace Go.TV.F
open Go.TV
structure WSm (w:T_impl_Weave):Prop where
 p:w.Parents.length≤10000000
 d:qE8 w
 l:∀ b ∈ w.Bodies,b.Line.size≤1000000000
def vIn (n:Int) (v:Int):Bool:=decide (0≤v) && decide (v < n)
theorem areVersions_eq {w:T_impl_Weave} {l:List Int} (hl:w.Parents.length≤10000000) (hll:l.length≤1000000000):vY w l=some (l.all (vIn w.Parents.length)):=by
 unfold vY
 have:=zV4 (body:=fun s'=>xV w l s') (good:=.inr ()) (bad:=.inl false) l (vIn w.Parents.length) (fun i x hi hil=>by
  unfold xV
  rw [ifT (by simpa using hil),zD,hi,Option.bind_some,qQ6 (by omega) (by omega),Option.bind_some,wkS i (by omega)]
  unfold vIn
  cases (decide (0≤x) && decide (x < (w.Parents.length:Int))) <;> rfl) (by
  unfold xV
  rw [ifF (by simp)])
 rw [this,Option.bind_some]
 cases l.all (vIn w.Parents.length) <;> rfl
theorem zD3 (s:Nat) (w:T_impl_Weave):∀ i ∈ places s w,i < w.Bodies.length:=fun i hi=>by
 obtain ⟨_,x,hx,_⟩:=(idxs_mem _ _ _ _).1 hi
 rw [Nat.sub_zero] at hx
 exact (List.getElem?_eq_some_iff.1 hx).1
theorem rise_in {l:List Int} {n:Int} (h:jW l n=true):l.all (vIn n)=true:=List.all_eq_true.2 (fun x hx=>by
 have:=wX h hx
 unfold vIn
 simp
 omega)
theorem wOk_g {w:T_impl_Weave} (h:wOk w=true):gOk w.Parents=true∧w.Bodies.length≤300:=by
 unfold wOk at h
 simp only [Bool.and_eq_true,decide_eq_true_eq] at h
 exact h.1
def seenL (w:T_impl_Weave) (l:List Int):List ByteArray:=zA5 w (places (orL (qL w.Parents w.Parents.length) l) w)
theorem seenL_len (w:T_impl_Weave) (l:List Int):(seenL w l).length≤w.Bodies.length:=by
 unfold seenL zA5
 rw [List.length_map]
 exact zW4 _ _
theorem seenS_eq {w:T_impl_Weave} {l:List Int} (hs:WSm w) (hw:wOk w=true) (hl:l.all (vIn w.Parents.length)=true) (hll:l.length≤1000000000) :
  uU w l=some (kS (places (orL (qL w.Parents w.Parents.length) l) w))∧vR w (kS (places (orL (qL w.Parents w.Parents.length) l) w))=some (seenL w l):=by
 obtain ⟨hg,hb⟩:=wOk_g hw
 have hpl:=zW4 (orL (qL w.Parents w.Parents.length) l) w
 refine ⟨?_,(qE5 (w:=w) (zD3 _ w) (by omega)).2⟩
 unfold uU
 rw [qA9 hg hll,Option.bind_some]
 have e3:xZ (T_impl_Weave.mk w.Parents w.Bodies) (uZ w.Parents l)=_:=qD3 (w:=w) (qL7 hg (fun x hx=>by
  have:=List.all_eq_true.1 hl x hx
  unfold vIn at this
  simpa using this)) hs.d
 rw [e3]
 rfl
theorem l06Parents_eq {w:T_impl_Weave} {l:List Int} (hp:w.Parents.length≤10000000) (hll:l.length≤1000000000):zE0 w l=some (decide (l.length≤4) && jW l w.Parents.length):=by
 unfold zE0
 rw [qO2 hll (by omega) (by omega)]
 by_cases q3:l.length≤4
 ·rw [ifT (b:=decide ((l.length:Int)≤4)) (decide_eq_true (by omega)),decide_eq_true q3]
  rfl
 ·rw [ifF (b:=decide ((l.length:Int)≤4)) (decide_eq_false (by omega)),decide_eq_false q3]
  rfl
theorem l06Has_eq {w:T_impl_Weave} (hp:w.Parents.length≤10000000) (v:Int):zR8 w v=some (vIn w.Parents.length v):=by
 unfold zR8 vIn
 rw [zQ (by omega) (by omega),qF7]
 have:decide (v≤(w.Parents.length:Int) - 1)=decide (v < (w.Parents.length:Int)):=by
  rw [Bool.eq_iff_iff]
  simp
  omega
 rw [this]
 rfl
theorem qR0 {l:List Int} {v:Int} (hl:l.length≤1000000000):zS8 l v=some (l.filter fun x=>x != v):=by
 unfold zS8
 have:=loopE (body:=fun (s':Int×(List Int))=>uO l v s'.1 s'.2) (fun i b=>((i:Int),b)) l (fun _ (b:List Int) x=>(.inl (if (x != v)=true then b++[x] else b):List Int⊕List Int)) id (fun i b=>b.length≤i) (fun i x b hi hil hI=>by
  left
  refine ⟨_,rfl,?_,by split <;> (try simp only [List.length_append,List.length_singleton]) <;> omega⟩
  show uO l v i b=_
  unfold uO
  rw [ifT (by simpa using hil),zD,hi,Option.bind_some,zJ (by simp; omega),wkS i (by omega)]
  cases (x != v) <;> rfl) (fun b hI=>by
  show uO l v l.length b=_
  unfold uO
  rw [ifF (by simp)]
  rfl) (b0:=[]) (by simp)
 have key:∀ (l:List Int) (i:Nat) (out:List Int),goE (ρ:=List Int) (fun _ (b:List Int) x=>.inl (if (x != v)=true then b++[x] else b)) id l i out=out++l.filter fun x=>x != v:=by
  intro l
  induction l with
  | nil=>intro i out; simp [goE]
  | cons x l ih =>
   intro i out
   simp only [goE]
   rw [ih]
   cases h:(x != v) <;> simp [h]
 have e0:((0:Nat):Int)=0:=rfl
 rw [e0] at this
 rw [this,key,Option.bind_some,List.nil_append]
 rfl
end Go.TV.F
namespace Go.TV.F
open Go.TV
def stat (g:List (List Int)) (b:T_impl_Body):Bool:=qK b.Line && (decide (0≤b.Ins) && decide (b.Ins≤(g.length:Int) - 1)) && jW b.Dels g.length && b.Dels.all fun d=>zV (zK9 g d) b
def inc (c:Int→Int) (x:Int):Int→Int:=fun y=>if y=x then c y+1 else c y
def okF (g:List (List Int)):(Int→Int)→List T_impl_Body→Prop
 | _,[]=>True
 | c,b :: l=>stat g b=true∧b.Ord=c b.Ins∧okF g (inc c b.Ins) l
def cnts:(Int→Int)→List T_impl_Body→Int→Int
 | c,[]=>c
 | c,b :: l=>cnts (inc c b.Ins) l
theorem bodB_iff {g:List (List Int)} {born:List Int} {c:Int→Int} (hc:∀ v:Nat,v < g.length→born.getD v 0=c v) (b:T_impl_Body):bodB g born b=true↔stat g b=true∧b.Ord=c b.Ins:=by
 unfold bodB stat
 simp only [Bool.and_eq_true,decide_eq_true_eq,beq_iff_eq]
 constructor
 ·rintro ⟨⟨⟨⟨h1,h2,h3⟩,h4⟩,h5⟩,h6⟩
  refine ⟨⟨⟨⟨h1,h2,h3⟩,h5⟩,h6⟩,?_⟩
  rw [h4,hc _ (by omega)]
  congr 1
  omega
 ·rintro ⟨⟨⟨⟨h1,h2,h3⟩,h5⟩,h6⟩,h4⟩
  refine ⟨⟨⟨⟨h1,h2,h3⟩,?_⟩,h5⟩,h6⟩
  rw [h4,hc _ (by omega)]
  congr 1
  omega
theorem zZ7 {g:List (List Int)} {b:T_impl_Body} (h:stat g b=true):0≤b.Ins∧b.Ins < g.length:=by
 unfold stat at h
 simp only [Bool.and_eq_true,decide_eq_true_eq] at h
 omega
theorem goE_ok {g:List (List Int)}:∀ (l:List T_impl_Body) (i:Nat) (born:List Int) (c:Int→Int),born.length=g.length→(∀ v:Nat,v < g.length→born.getD v 0=c v) →
  (okF g c l∧∃ born',goE (bstep g) .inr l i born=.inr born'∧born'.length=g.length∧∀ v:Nat,v < g.length→born'.getD v 0=cnts c l v)∨(¬okF g c l∧goE (bstep g) .inr l i born=.inl false)
 | [],i,born,c,hl,hc=>.inl ⟨trivial,born,rfl,hl,hc⟩
 | b :: l,i,born,c,hl,hc=>by
  simp only [goE,bstep,okF,cnts]
  by_cases q:bodB g born b=true
  ·rw [if_pos q]
   obtain ⟨q1,q2⟩:=(bodB_iff hc b).1 q
   obtain ⟨i0,i1⟩:=zZ7 q1
   have:=goE_ok l (i+1) (born.set b.Ins.toNat (born.getD b.Ins.toNat 0+1)) (inc c b.Ins) (by rw [List.length_set]; exact hl) (fun v hv=>by
    rw [qL5]
    unfold inc
    by_cases e:(v:Int)=b.Ins
    ·have e2:b.Ins.toNat=v:=by omega
     rw [if_pos ⟨e2,by omega⟩,if_pos e,e2,hc v hv]
    ·rw [if_neg (fun h=>e (by omega)),if_neg e,hc v hv])
   rcases this with ⟨h1,h2⟩ | ⟨h1,h2⟩
   ·exact .inl ⟨⟨q1,q2,h1⟩,h2⟩
   ·exact .inr ⟨fun h=>h1 h.2.2,h2⟩
  ·rw [if_neg q]
   exact .inr ⟨fun h=>q ((bodB_iff hc b).2 ⟨h.1,h.2.1⟩),rfl⟩
def c0:Int→Int:=fun _=>0
structure WR (w:T_impl_Weave):Prop where
 g:gOk w.Parents=true
 n:w.Bodies.length≤300
 o:okF w.Parents c0 w.Bodies
 b:∀ v:Nat,v < w.Parents.length→cnts c0 w.Bodies v≤80
 p:∀ v:Nat,v < w.Parents.length→(places (clo w.Parents v) w).length≤80
theorem wOk_iff {w:T_impl_Weave}:wOk w=true↔WR w:=by
 unfold wOk
 simp only [Bool.and_eq_true,decide_eq_true_eq]
 have hgo:=goE_ok (g:=w.Parents) w.Bodies 0 (List.replicate w.Parents.length 0) c0 (by simp) (fun v hv=>by
  rw [List.getD_eq_getElem?_getD,List.getElem?_replicate,if_pos hv]
  rfl)
 constructor
 ·rintro ⟨⟨h1,h2⟩,h3⟩
  rcases hgo with ⟨k1,born,k2,k3,k4⟩ | ⟨k1,k2⟩
  ·rw [show zV5 w=.inr born from k2] at h3
   have h3:finB w born=true:=h3
   unfold finB at h3
   rw [List.all_eq_true] at h3
   refine ⟨h1,h2,k1,fun v hv=>?_,fun v hv=>?_⟩
   ·have:=h3 v (List.mem_range.2 hv)
    simp only [Bool.and_eq_true,decide_eq_true_eq] at this
    rw [← k4 v hv]
    exact this.1
   ·have:=h3 v (List.mem_range.2 hv)
    simp only [Bool.and_eq_true,decide_eq_true_eq] at this
    exact this.2
  ·rw [show zV5 w=.inl false from k2] at h3
   cases h3
 ·intro h
  refine ⟨⟨h.g,h.n⟩,?_⟩
  rcases hgo with ⟨k1,born,k2,k3,k4⟩ | ⟨k1,k2⟩
  ·rw [show zV5 w=.inr born from k2]
   show finB w born=true
   unfold finB
   rw [List.all_eq_true]
   intro v hv
   have hv:=List.mem_range.1 hv
   simp only [Bool.and_eq_true,decide_eq_true_eq]
   rw [k4 v hv]
   exact ⟨h.b v hv,h.p v hv⟩
  ·exact absurd h.o k1
theorem zW7 {g:List (List Int)}:∀ {l:List T_impl_Body} {c:Int→Int},okF g c l→∀ b ∈ l,stat g b=true
 | [],_,_,_,h=>by cases h
 | b :: l,c,h,x,hx=>by
  rcases List.mem_cons.1 hx with rfl | hx
  ·exact h.1
  ·exact zW7 h.2.2 x hx
theorem qP7:∀ {n:Nat} {l:List Int},jW l (n:Int)=true→l.length≤n:=by
 intro n l h
 -- the numbers ascend,so the i-th is at least i
 have key:∀ i,i < l.length→(i:Int)≤l.getD i 0:=by
  intro i
  induction i with
  | zero =>
   intro hi
   have:=List.all_eq_true.1 h 0 (List.mem_range.2 hi)
   unfold zD5 at this
   simp only [Bool.and_eq_true,decide_eq_true_eq] at this
   omega
  | succ i ih =>
   intro hi
   have h1:=ih (by omega)
   have:=List.all_eq_true.1 h (i+1) (List.mem_range.2 hi)
   unfold zD5 at this
   simp only [Bool.and_eq_true,Bool.or_eq_true,decide_eq_true_eq,beq_iff_eq,Nat.add_sub_cancel] at this
   rcases this.2 with q | q <;> omega
 rcases Nat.eq_zero_or_pos l.length with q | q
 ·omega
 ·have h1:=key (l.length - 1) (by omega)
  have:=List.all_eq_true.1 h (l.length - 1) (List.mem_range.2 (by omega))
  unfold zD5 at this
  simp only [Bool.and_eq_true,decide_eq_true_eq] at this
  omega
theorem WR.sm {w:T_impl_Weave} (h:WR w):WSm w:=by
 have hg:=jH h.g
 have hn:=h.n
 refine ⟨by omega,⟨by omega,fun b hb=>?_⟩,fun b hb=>?_⟩
 ·have:=zW7 h.o b hb
  unfold stat at this
  simp only [Bool.and_eq_true] at this
  have:=qP7 this.1.2
  omega
 ·have:=zW7 h.o b hb
  unfold stat qK at this
  simp only [Bool.and_eq_true,decide_eq_true_eq] at this
  omega
theorem WR.line {w:T_impl_Weave} (h:WR w) {b:T_impl_Body} (hb:b ∈ w.Bodies):qK b.Line=true:=by
 have:=zW7 h.o b hb
 unfold stat at this
 simp only [Bool.and_eq_true] at this
 exact this.1.1.1
theorem seenL_line {w:T_impl_Weave} (h:WR w) (l:List Int):∀ x ∈ seenL w l,qK x=true:=fun x hx=>by
 unfold seenL zA5 at hx
 obtain ⟨i,hi,rfl⟩:=List.mem_map.1 hx
 have:=zD3 _ w i hi
 rw [List.getElem?_eq_getElem this]
 exact h.line (List.getElem_mem this)
end Go.TV.F
namespace Go.TV.F
open Go.TV
theorem and255 (x:Int):0≤bits .and .i64 x 255∧bits .and .i64 x 255≤255:=by
 have h:(BitVec.ofInt 64 x &&& BitVec.ofInt 64 255).toNat≤255:=by
  rw [BitVec.toNat_and,show (BitVec.ofInt 64 255).toNat=255 from rfl]
  exact Nat.and_le_right
 have e:bits .and .i64 x 255=wk .i64 ((BitVec.ofInt 64 x &&& BitVec.ofInt 64 255).toNat:Int):=rfl
 rw [e,zQ (by omega) (by omega)]
 omega
def xD (b:List Int) (c:T_spec_l01Cur):Prop:=c.b=b∧0≤c.i∧c.i≤b.length
theorem zX0 {b:List Int} {c:T_spec_l01Cur} (hb:b.length≤1000000000) (h:xD b c):∃ x c',yW c=some (x,c')∧0≤x∧x≤255∧xD b c':=by
 obtain ⟨rfl,h1,h2⟩:=h
 unfold yW
 by_cases q:c.i < (c.b.length:Int)
 ·rw [ifT (by simpa using q),zC1 h1 q,Option.bind_some]
  refine ⟨_,_,rfl,(and255 _).1,(and255 _).2,rfl,?_,?_⟩
  ·show 0≤wk .i64 (c.i+1)
   rw [zQ (by omega) (by omega)]
   omega
  ·show wk .i64 (c.i+1)≤_
   rw [zQ (by omega) (by omega)]
   omega
 ·rw [ifF (by simpa using q)]
  exact ⟨_,_,rfl,(and255 _).1,(and255 _).2,rfl,h1,h2⟩
theorem qI1 {x n:Int} (h0:0≤x) (hn:0 < n):0≤x.tmod n∧x.tmod n < n:=by
 rw [Int.tmod_eq_emod_of_nonneg h0]
 exact ⟨Int.emod_nonneg _ (by omega),Int.emod_lt_of_pos _ hn⟩
theorem zL5 {b:List Int} {c:T_spec_l01Cur} {n:Int} (hb:b.length≤1000000000) (h:xD b c) (hn:n≤256):∃ x c',jL c n=some (x,c')∧0≤x∧(0 < n→x < n)∧(n≤0→x=0)∧xD b c':=by
 unfold jL
 by_cases q:n≤0
 ·rw [ifT (by simpa using q)]
  exact ⟨0,_,rfl,by omega,by omega,fun _=>rfl,h⟩
 ·rw [ifF (by simpa using q),ifT (by simpa using hn)]
  obtain ⟨x,c',h1,h2,h3,h4⟩:=zX0 hb h
  rw [show (T_spec_l01Cur.mk c.b c.i c.h)=c from rfl,h1,Option.bind_some,chk_in (by omega),Option.bind_some]
  have:=qI1 h2 (n:=n) (by omega)
  exact ⟨_,_,rfl,this.1,fun _=>this.2,fun h=>absurd h q,h4⟩
theorem qI9 {b:List Int} {c:T_spec_l01Cur} {n:Int} (hb:b.length≤1000000000) (h:xD b c) (hn:n≤256):∃ x c',wQ c n=some (x,c')∧xD b c':=by
 unfold wQ
 obtain ⟨x,c',h1,_,_,_,h4⟩:=zL5 hb h hn
 rw [show (T_spec_l01Cur.mk c.b c.i c.h)=c from rfl,h1,Option.bind_some]
 exact ⟨_,_,rfl,h4⟩
theorem l01New_ok {b:List Int} (hb:b.length≤1000000000):∃ c,zR7 b=some c∧xD b c:=by
 unfold zR7
 obtain ⟨h,h1,_⟩:=loopM_total (body:=fun (s':Int×Int)=>zC3 b s'.1 s'.2) (fun s=>0≤s.2∧s.2≤b.length) (fun s=>(b.length - s.2).toNat) (fun _=>True) (s:=((wk .i64 (73073+(b.length:Int))),0)) ⟨by simp,by simp⟩ (fun s hs=>by
  obtain ⟨h,i⟩:=s
  have hs:0≤i∧i≤(b.length:Int):=hs
  show (∃ s',zC3 b h i=_∧_)∨∃ r,zC3 b h i=_∧_
  unfold zC3
  by_cases q:i < (b.length:Int)
  ·by_cases q2:i < 4000
   ·rw [ifT (by simpa using q),Option.bind_some,ifT (by simpa using q2),zC1 hs.1 q,Option.bind_some,zQ (x:=i+1) (by omega) (by omega)]
    exact .inl ⟨_,rfl,⟨by show 0≤i+1; omega,by show i+1≤_; omega⟩,by show ((b.length:Int) - (i+1)).toNat < ((b.length:Int) - i).toNat; omega⟩
   ·rw [ifT (by simpa using q),Option.bind_some,ifF (by simpa using q2)]
    exact .inr ⟨_,rfl,trivial⟩
  ·rw [ifF (by simpa using q),Option.bind_some]
   exact .inr ⟨_,rfl,trivial⟩)
 rw [h1,Option.bind_some]
 exact ⟨_,rfl,rfl,by show (0:Int)≤0; omega,by show (0:Int)≤_; omega⟩
def rowOk (l:List Int) (n:Int):Prop:=l.length≤4∧jW l n=true
theorem rise_nil (n:Int):jW [] n=true:=rfl
theorem rise_snoc {l:List Int} {n v:Int} (h:jW l v=true) (h0:0≤v) (hv:v < n):jW (l++[v]) n=true:=by
 unfold jW
 rw [List.all_eq_true]
 intro i hi
 have hi:=List.mem_range.1 hi
 simp only [List.length_append,List.length_singleton] at hi
 by_cases q:i < l.length
 ·have:=List.all_eq_true.1 h i (List.mem_range.2 q)
  have e1:(l++[v]).getD i 0=l.getD i 0:=by simp [List.getD_eq_getElem?_getD,List.getElem?_append_left q]
  have e2:(l++[v]).getD (i - 1) 0=l.getD (i - 1) 0:=by simp [List.getD_eq_getElem?_getD,List.getElem?_append_left (show i - 1 < l.length by omega)]
  simp only [zD5,e1,e2,Bool.and_eq_true,decide_eq_true_eq] at this ⊢
  exact ⟨⟨this.1.1,by omega⟩,this.2⟩
 ·have hi':i=l.length:=by omega
  have e1:(l++[v]).getD i 0=v:=by simp [hi']
  simp only [zD5,e1,Bool.and_eq_true,decide_eq_true_eq]
  refine ⟨⟨h0,by omega⟩,?_⟩
  rcases Nat.eq_zero_or_pos i with q0 | q0
  ·simp [q0]
  ·have hm:(l++[v]).getD (i - 1) 0=l[i - 1]'(by omega):=by simp [List.getD_eq_getElem?_getD,List.getElem?_append_left (show i - 1 < l.length by omega),show i - 1 < l.length by omega]
   have:=wX h (List.getElem_mem (show i - 1 < l.length by omega))
   rw [hm]
   simp
   right
   omega
theorem rise_mono {l:List Int} {n m:Int} (h:jW l n=true) (hm:n≤m):jW l m=true:=by
 unfold jW at h ⊢
 rw [List.all_eq_true] at h ⊢
 intro i hi
 have:=h i hi
 simp only [zD5,Bool.and_eq_true,decide_eq_true_eq] at this ⊢
 exact ⟨⟨this.1.1,by omega⟩,this.2⟩
theorem l05Parents_ok {b:List Int} {c:T_spec_l01Cur} {n:Int} (hb:b.length≤1000000000) (h:xD b c) (h0:0≤n) (hn:n≤100):∃ l c',zK1 c n=some (l,c')∧rowOk l n∧xD b c':=by
 unfold zK1
 obtain ⟨r,h1,h2⟩:=loopM_total (body:=fun (s':Int×(List Int)×Int×Int×(List Int))=>yC n s'.1 s'.2.1 s'.2.2.1 s'.2.2.2.1 s'.2.2.2.2)
  (fun s=>0≤s.1∧s.1≤n∧xD b ⟨s.2.1,s.2.2.1,s.2.2.2.1⟩∧s.2.2.2.2.length≤4∧jW s.2.2.2.2 s.1=true) (fun s=>(n - s.1).toNat) (fun r=>xD b ⟨r.1,r.2.1,r.2.2.1⟩∧rowOk r.2.2.2 n)
  (s:=(0,c.b,c.i,c.h,[])) ⟨by simp,by simpa using h0,h,by simp,rfl⟩ (fun s hs=>by
  obtain ⟨v,cb,ci,ch,out⟩:=s
  obtain ⟨hv0,hvn,hc,hl,hr⟩:=hs
  simp only at hv0 hvn hc hl hr
  show (∃ s',yC n v cb ci ch out=_∧_)∨∃ r,yC n v cb ci ch out=_∧_
  unfold yC
  by_cases q:v < n
  ·rw [ifT (by simpa using q)]
   -- the draws come to some answer and some cursor
   have draws:∃ (ok:Bool) (cb':List Int) (ci' ch':Int),(if (decide ((out.length:Int) < 4)) then (if (v == (wk .i64 (n - 1))) then (wQ (T_spec_l01Cur.mk cb ci ch) 4).bind fun x23=>some ((!x23.1),x23.2.b,x23.2.i,x23.2.h) else some (false,cb,ci,ch)).bind fun b_1=>(if b_1.1 then some (true,b_1.2.1,b_1.2.2.1,b_1.2.2.2) else (wQ (T_spec_l01Cur.mk b_1.2.1 b_1.2.2.1 b_1.2.2.2) (wk .i64 (n+2))).bind fun x30=>some (x30.1,x30.2.b,x30.2.i,x30.2.h)).bind fun b_2=>some (b_2.1,b_2.2.1,b_2.2.2.1,b_2.2.2.2) else some (false,cb,ci,ch))=some (ok,cb',ci',ch')∧xD b ⟨cb',ci',ch'⟩∧(ok=true→out.length < 4):=by
    by_cases q4:out.length < 4
    ·rw [ifT (by simp; omega)]
     have first:∃ (ok:Bool) (cb':List Int) (ci' ch':Int),(if (v == (wk .i64 (n - 1))) then (wQ (T_spec_l01Cur.mk cb ci ch) 4).bind fun x23=>some ((!x23.1),x23.2.b,x23.2.i,x23.2.h) else some (false,cb,ci,ch))=some (ok,cb',ci',ch')∧xD b ⟨cb',ci',ch'⟩:=by
      by_cases qv:(v == (wk .i64 (n - 1)))=true
      ·rw [if_pos qv]
       obtain ⟨x,c',g1,g2⟩:=qI9 (n:=4) hb hc (by omega)
       rw [g1]
       exact ⟨_,_,_,_,rfl,g2⟩
      ·rw [if_neg qv]
       exact ⟨_,_,_,_,rfl,hc⟩
     obtain ⟨ok,cb',ci',ch',g1,g2⟩:=first
     rw [g1,Option.bind_some]
     cases ok with
     | true=>exact ⟨_,_,_,_,rfl,g2,fun _=>q4⟩
     | false =>
      obtain ⟨x,c',g3,g4⟩:=qI9 (n:=n+2) hb g2 (by omega)
      rw [zQ (by omega) (by omega)]
      simp only [Bool.false_eq_true,if_false]
      rw [g3]
      exact ⟨_,_,_,_,rfl,g4,fun _=>q4⟩
    ·rw [ifF (by simp; omega)]
     exact ⟨_,_,_,_,rfl,hc,fun z=>by cases z⟩
   obtain ⟨ok,cb',ci',ch',g1,g2,g3⟩:=draws
   rw [g1,Option.bind_some,zQ (x:=v+1) (by omega) (by omega)]
   cases ok with
   | true =>
    simp only [if_true]
    rw [zJ (by simp; omega),Option.bind_some]
    refine .inl ⟨_,rfl,⟨by show 0≤v+1; omega,by show v+1≤n; omega,g2,?_,?_⟩,by show (n - (v+1)).toNat < (n - v).toNat; omega⟩
    ·have:=g3 rfl
     simp
     omega
    ·exact rise_snoc hr hv0 (by omega)
   | false =>
    simp only [Bool.false_eq_true,if_false]
    refine .inl ⟨_,rfl,⟨by show 0≤v+1; omega,by show v+1≤n; omega,g2,hl,rise_mono hr (by omega)⟩,by show (n - (v+1)).toNat < (n - v).toNat; omega⟩
  ·rw [ifF (by simpa using q)]
   exact .inr ⟨_,rfl,hc,hl,rise_mono hr hvn⟩)
 rw [h1,Option.bind_some]
 exact ⟨_,_,rfl,h2.2,h2.1⟩
end Go.TV.F
namespace Go.TV.F
open Go.TV
def wO (v:Int):Int→List ByteArray→List T_impl_Body
 | _,[]=>[]
 | ord,l :: ls=>⟨l,v,ord,[]⟩ :: wO v (ord+1) ls
def updB (v:Int) (S:Nat) (s:Bool) (b:T_impl_Body):T_impl_Body:=⟨b.Line,b.Ins,b.Ord,if (!s && zV S b)=true then b.Dels++[v] else b.Dels⟩
def jM (v:Int) (S:Nat):Int→List (List ByteArray)→List T_impl_Body→List Bool→List T_impl_Body
 | ord,h :: hs,b :: bs,s :: ss=>updB v S s b :: (wO v ord h++jM v S (ord+h.length) hs bs ss)
 | _,_,_,_=>[]
def zB3 (v:Int) (S:Nat) (bh:List (List ByteArray)) (bs:List T_impl_Body) (ss:List Bool):List T_impl_Body:=
 match bh with
 | h :: hs=>wO v 0 h++jM v S h.length hs bs ss
 | []=>[]
theorem zU0 (v:Int):∀ (ord:Int) (l:List ByteArray),(wO v ord l).length=l.length
 | _,[]=>rfl
 | ord,x :: l=>by simp [wO,zU0 v (ord+1) l]
theorem newB_go (v:Int):∀ (l:List ByteArray) (i:Nat) (ord:Int) (out:List T_impl_Body),
  goE (ρ:=Int×List T_impl_Body) (fun _ (b:Int×List T_impl_Body) (x:ByteArray)=>.inl (b.1+1,b.2++[⟨x,v,b.1,[]⟩])) id l i (ord,out)=(ord+l.length,out++wO v ord l)
 | [],_,ord,out=>by simp [goE,wO]
 | x :: l,i,ord,out=>by
  simp only [goE]
  rw [newB_go v l (i+1)]
  simp [wO]
  omega
theorem add_l2 {w:T_impl_Weave} {bh:List (List ByteArray)} {i:Nat} {h:List ByteArray} {ord:Int} {out:List T_impl_Body} (hi:bh[i]? = some h) (h0:0≤ord) (h1:ord+h.length≤1000000) (h2:out.length+h.length≤1000000) :
  zB (fun (s':Int×Int×(List T_impl_Body))=>yK w bh i s'.1 s'.2.1 s'.2.2) (ord,0,out)=some (ord+h.length,out++wO w.Parents.length ord h):=by
 have:=loopE (body:=fun (s':Int×Int×(List T_impl_Body))=>yK w bh i s'.1 s'.2.1 s'.2.2) (fun k (b:Int×List T_impl_Body)=>(b.1,(k:Int),b.2)) h (fun _ (b:Int×List T_impl_Body) (x:ByteArray)=>(.inl (b.1+1,b.2++[⟨x,(w.Parents.length:Int),b.1,[]⟩]):Int×List T_impl_Body⊕Int×List T_impl_Body)) id (fun k b=>b.1=ord+k∧b.2.length=out.length+k) (fun k x b hk hkl hI=>by
  left
  obtain ⟨g1,g2⟩:=hI
  refine ⟨_,rfl,?_,?_,?_⟩
  ·show yK w bh i b.1 k b.2=_
   unfold yK
   rw [zD,hi,Option.bind_some,ifT (by simpa using hkl),zD,hk,Option.bind_some,zJ (by simp; omega),Option.bind_some,wkS k (by omega),zQ (by omega) (by omega)]
  ·simp only
   omega
  ·simp only [List.length_append,List.length_singleton]
   omega) (fun b hI=>by
  show yK w bh i b.1 h.length b.2=_
  unfold yK
  rw [zD,hi,Option.bind_some,ifF (by simp)]
  rfl) (b0:=(ord,out)) ⟨by simp,by simp⟩
 have e0:((0:Nat):Int)=0:=rfl
 simp only [e0] at this
 rw [this,newB_go]
def uT (bh:List (List ByteArray)):Nat:=kQ List.length bh
theorem qO6 (v:Int) (S:Nat):∀ (hs:List (List ByteArray)) (ord:Int) (bs:List T_impl_Body) (ss:List Bool),(jM v S ord hs bs ss).length≤bs.length+uT hs
 | [],_,_,_=>by simp [jM]
 | h :: hs,ord,[],_=>by simp [jM]
 | h :: hs,ord,b :: bs,[]=>by simp [jM]
 | h :: hs,ord,b :: bs,s :: ss=>by
  have:=qO6 v S hs (ord+h.length) bs ss
  simp only [jM,List.length_cons,List.length_append,zU0,uT,kQ] at *
  omega
theorem add_l1 {w:T_impl_Weave} {bh:List (List ByteArray)} {st:List Bool} {t:List Bool} {S:Nat} (ha:agree t S) (hw:WSm w) (hnb:w.Bodies.length≤300) (hbl:bh.length=w.Bodies.length+1) (hsl:st.length=w.Bodies.length) (hpl:w.Parents.length≤1000) :
  ∀ (hs:List (List ByteArray)) (i:Nat) (ord:Int) (out:List T_impl_Body),bh.drop (i+1)=hs→i≤w.Bodies.length→0≤ord→ord+uT hs≤100000→out.length+(w.Bodies.length - i)+uT hs≤100000 →
   zB (fun (s':Int×Int×(List T_impl_Body))=>jQ w bh st t s'.1 s'.2.1 s'.2.2) (ord,((i+1:Nat):Int),out)=some (out++jM w.Parents.length S ord hs (w.Bodies.drop i) (st.drop i))
 | [],i,ord,out,hd,hi,h0,h1,h2=>by
  have hie:i=w.Bodies.length:=by
   have:=congrArg List.length hd
   simp only [List.length_drop,List.length_nil] at this
   omega
  subst hie
  rw [zX]
  show (jQ w bh st t ord ((w.Bodies.length+1:Nat):Int) out).bind _=_
  unfold jQ
  rw [ifF (decide_eq_false (by omega))]
  simp [jM]
 | h :: hs,i,ord,out,hd,hi,h0,h1,h2=>by
  have hlt:i < w.Bodies.length:=by
   have:=congrArg List.length hd
   simp only [List.length_drop,List.length_cons] at this
   omega
  have hbi:bh[i+1]? = some h:=by
   have:(bh.drop (i+1))[0]? = some h:=by rw [hd]; rfl
   rwa [List.getElem?_drop] at this
  have hdt:bh.drop (i+2)=hs:=by
   have:(bh.drop (i+1)).drop 1=hs:=by rw [hd]; rfl
   rwa [List.drop_drop] at this
  have hb:w.Bodies.drop i=w.Bodies[i] :: w.Bodies.drop (i+1):=List.drop_eq_getElem_cons hlt
  have hs':st.drop i=st[i]'(by omega) :: st.drop (i+1):=List.drop_eq_getElem_cons (by omega)
  have hdl:=hw.d.2 _ (List.getElem_mem hlt)
  have hdl2:(w.Bodies[i]).Dels.length≤1000000000:=hdl
  simp only [uT,kQ] at h1 h2
  have hT:=qO6 w.Parents.length S hs (ord+h.length) (w.Bodies.drop (i+1)) (st.drop (i+1))
  have j5:∀ o:List T_impl_Body,o.length=out.length+1→uJ w bh ord ((i+1:Nat):Int) o=some (.inl (ord+h.length,((i+2:Nat):Int),o++wO w.Parents.length ord h)):=fun o ho=>by
   unfold uJ
   have:=add_l2 (w:=w) (ord:=ord) (out:=o) hbi h0 (by omega) (by omega)
   rw [this,Option.bind_some]
   unfold zO6
   rw [wkS (i+1) (by omega)]
  have step:jQ w bh st t ord ((i+1:Nat):Int) out=some (.inl (ord+h.length,((i+2:Nat):Int),out++[updB w.Parents.length S (st[i]'(by omega)) w.Bodies[i]]++wO w.Parents.length ord h)):=by
   unfold jQ
   have e1:wk .i64 (((i+1:Nat):Int) - 1)=(i:Int):=by rw [zQ (by omega) (by omega)]; omega
   rw [ifT (decide_eq_true (by omega)),ifT (decide_eq_true (by omega)),e1,zD,List.getElem?_eq_getElem hlt,Option.bind_some,zJ (by simp; omega),Option.bind_some,List.nil_append,zD,List.getElem?_eq_getElem (by omega),Option.bind_some]
   have e2:yT (T_impl_Body.mk w.Bodies[i].Line w.Bodies[i].Ins w.Bodies[i].Ord w.Bodies[i].Dels) t=some (zV S w.Bodies[i]):=qO5 (b:=w.Bodies[i]) ha hdl
   have j6:∀ d:List Int,zH1 w bh ord ((i+1:Nat):Int) out w.Bodies[i] d=some (.inl (ord+h.length,((i+2:Nat):Int),out++[⟨w.Bodies[i].Line,w.Bodies[i].Ins,w.Bodies[i].Ord,d⟩]++wO w.Parents.length ord h)):=fun d=>by
    unfold zH1
    rw [zJ (by simp; omega),Option.bind_some,j5 _ (by simp)]
   rw [e2]
   unfold updB
   cases hst:st[i]'(by omega) with
   | true =>
    simp only [Bool.not_true,Bool.false_eq_true,if_false,Option.bind_some,Bool.false_and]
    exact j6 _
   | false =>
    simp only [Bool.not_false,if_true,Option.bind_some,Bool.true_and]
    cases zV S w.Bodies[i] with
    | true =>
     rw [ifT rfl,zJ (by simp; omega),Option.bind_some]
     exact j6 _
    | false=>exact j6 _
  rw [zX]
  show (jQ w bh st t ord _ out).bind _=_
  rw [step]
  have hrec:=add_l1 ha hw hnb hbl hsl hpl hs (i+1) (ord+h.length) (out++[updB w.Parents.length S (st[i]'(by omega)) w.Bodies[i]]++wO w.Parents.length ord h) hdt (by omega) (by omega) (by simp only [uT]; omega) (by simp only [List.length_append,List.length_singleton,zU0,uT]; omega)
  show zB _ (ord+h.length,((i+1+1:Nat):Int),_)=_
  rw [hrec,hb,hs']
  simp only [jM,List.append_assoc,List.singleton_append,List.cons_append,List.nil_append]
theorem add_bodies {w:T_impl_Weave} {bh:List (List ByteArray)} {st:List Bool} {t:List Bool} {S:Nat} (ha:agree t S) (hw:WSm w) (hnb:w.Bodies.length≤300) (hbl:bh.length=w.Bodies.length+1) (hsl:st.length=w.Bodies.length) (hpl:w.Parents.length≤1000) (hle:uT bh≤1000) :
  zB (fun (s':Int×Int×(List T_impl_Body))=>jQ w bh st t s'.1 s'.2.1 s'.2.2) (0,0,[])=some (zB3 w.Parents.length S bh w.Bodies st):=by
 cases bh with
 | nil=>simp at hbl
 | cons h hs =>
  simp only [uT,kQ] at hle
  have j5:uJ w (h :: hs) 0 ((0:Nat):Int) []=some (.inl (0+h.length,((1:Nat):Int),[]++wO w.Parents.length 0 h)):=by
   unfold uJ
   have:=add_l2 (w:=w) (bh:=h :: hs) (i:=0) (ord:=0) (out:=[]) rfl (by decide) (by omega) (by simp; omega)
   rw [this,Option.bind_some]
   unfold zO6
   rw [wkS 0 (by omega)]
  rw [zX]
  show (jQ w (h :: hs) st t 0 ((0:Nat):Int) []).bind _=_
  have step:jQ w (h :: hs) st t 0 ((0:Nat):Int) []=some (.inl (0+h.length,((1:Nat):Int),[]++wO w.Parents.length 0 h)):=by
   unfold jQ
   rw [ifT (decide_eq_true (by omega)),ifF (b:=decide (((0:Nat):Int) > 0)) (decide_eq_false (by omega)),j5]
  rw [step]
  have:=add_l1 ha hw hnb hbl hsl hpl hs 0 (0+h.length) ([]++wO w.Parents.length 0 h) rfl (by omega) (by omega) (by simp only [uT]; omega) (by simp only [List.nil_append,zU0,uT]; omega)
  show zB _ (0+(h.length:Int),((0+1:Nat):Int),_)=_
  rw [this]
  simp only [zB3,List.drop_zero,List.nil_append,Int.zero_add]
def zY1 (ps:List Nat) (b:Nat×List (List ByteArray)×List Bool) (q:Int×ByteArray):Nat×List (List ByteArray)×List Bool:=
 if 0≤q.1 then (ps.getD q.1.toNat 0+1,b.2.1,b.2.2.set (ps.getD q.1.toNat 0) true) else (b.1,b.2.1.set b.1 (b.2.1.getD b.1 []++[q.2]),b.2.2)
def zI0 (ps:List Nat) (nb:Nat) (l:List (Int×ByteArray)):Nat×List (List ByteArray)×List Bool:=l.foldl (zY1 ps) (0,List.replicate (nb+1) [],List.replicate nb false)
def trueN (st:List Bool):Nat:=st.countP id
structure WvI (nb:Nat) (lines:List ByteArray) (k:Nat) (b:Nat×List (List ByteArray)×List Bool):Prop where
 at_:b.1≤nb
 bl:b.2.1.length=nb+1
 sl:b.2.2.length=nb
 cn:uT b.2.1+trueN b.2.2≤k
 mm:∀ h ∈ b.2.1,∀ x ∈ h,x ∈ lines
theorem sumOf_set {α:Type} (w:α→Nat):∀ (l:List α) (i:Nat) (x y:α),l[i]? = some x→kQ w (l.set i y)+w x=kQ w l+w y
 | [],_,_,_,h=>by simp at h
 | a :: l,0,x,y,h=>by
  simp only [List.getElem?_cons_zero,Option.some.injEq] at h
  subst h
  simp [kQ]
  omega
 | a :: l,i+1,x,y,h=>by
  simp only [List.getElem?_cons_succ] at h
  have:=sumOf_set w l i x y h
  simp [kQ]
  omega
theorem trueN_set (st:List Bool) (i:Nat):trueN (st.set i true)≤trueN st+1:=by
 unfold trueN
 induction st generalizing i with
 | nil=>simp
 | cons a st ih =>
  cases i with
  | zero=>cases a <;> simp [List.countP_cons]
  | succ i =>
   have:=ih i
   simp only [List.set_cons_succ,List.countP_cons]
   omega
theorem wvI_step {nb:Nat} {lines:List ByteArray} {k:Nat} {b:Nat×List (List ByteArray)×List Bool} {ps:List Nat} {q:Int×ByteArray} (h:WvI nb lines k b) (hp:∀ p ∈ ps,p < nb) (hq:q.1 = -1∨(0≤q.1∧q.1 < ps.length)) (hl:q.2 ∈ lines):WvI nb lines (k+1) (zY1 ps b q):=by
 unfold zY1
 rcases hq with hq | ⟨h0,h1⟩
 ·rw [if_neg (by omega)]
  have hlt:b.1 < b.2.1.length:=by have:=h.at_; have:=h.bl; omega
  have hg:b.2.1[b.1]? = some (b.2.1.getD b.1 []):=by
   rw [List.getD_eq_getElem?_getD,List.getElem?_eq_getElem hlt]
   rfl
  refine ⟨h.at_,by simp only [List.length_set]; exact h.bl,h.sl,?_,fun x hx y hy=>?_⟩
  ·have:=sumOf_set List.length b.2.1 b.1 _ (b.2.1.getD b.1 []++[q.2]) hg
   have hc:=h.cn
   unfold uT at *
   simp only [List.length_append,List.length_singleton] at this ⊢
   omega
  ·rcases List.mem_or_eq_of_mem_set hx with hx | rfl
   ·exact h.mm x hx y hy
   ·rcases List.mem_append.1 hy with hy | hy
    ·exact h.mm _ (List.mem_of_getElem? hg) y hy
    ·rw [List.mem_singleton.1 hy]
     exact hl
 ·rw [if_pos h0]
  have hlt:q.1.toNat < ps.length:=by omega
  have hpm:ps.getD q.1.toNat 0 < nb:=by
   rw [List.getD_eq_getElem?_getD,List.getElem?_eq_getElem hlt]
   exact hp _ (List.getElem_mem hlt)
  refine ⟨by simp only; omega,h.bl,by simp only [List.length_set]; exact h.sl,?_,h.mm⟩
  have hc:=h.cn
  have:=trueN_set b.2.2 (ps.getD q.1.toNat 0)
  simp only
  omega
theorem lens_rep (n:Nat):uT (List.replicate n [])=0:=by
 induction n with
 | zero=>rfl
 | succ n ih =>
  rw [List.replicate_succ]
  simp only [uT,kQ,List.length_nil,Nat.zero_add]
  exact ih
theorem wvI_0 (nb:Nat) (lines:List ByteArray):WvI nb lines 0 (0,List.replicate (nb+1) [],List.replicate nb false):=⟨Nat.zero_le _,by simp,by simp,by
 rw [lens_rep]
 unfold trueN
 simp,fun h hh x hx=>by
 rw [List.eq_of_mem_replicate hh] at hx
 cases hx⟩
theorem wv_go (ps:List Nat):∀ (l:List (Int×ByteArray)) (i:Nat) (b:Nat×List (List ByteArray)×List Bool),goE (ρ:=List (List ByteArray)×List Bool) (fun _ b q=>.inl (zY1 ps b q)) (fun b=>b.2) l i b=(l.foldl (zY1 ps) b).2
 | [],_,b=>rfl
 | q :: l,i,b=>by
  simp only [goE,List.foldl_cons]
  exact wv_go ps l (i+1) _
theorem add_l4 {lines:List ByteArray} {ps:List Nat} {way:List Int} {nb:Nat} (hw:wayOk ps.length lines.length way) (hp:∀ p ∈ ps,p < nb) (hnb:nb≤300) (hll:lines.length≤1000) :
  zB (fun (s':Int×Int×(List (List ByteArray))×(List Bool))=>yJ lines (kS ps) way s'.1 s'.2.1 s'.2.2.1 s'.2.2.2) (0,0,List.replicate (nb+1) [],List.replicate nb false)=some (zI0 ps nb (way.zip lines)).2∧WvI nb lines lines.length (zI0 ps nb (way.zip lines)):=by
 have hzl:(way.zip lines).length=lines.length:=by rw [List.length_zip,hw.1]; omega
 have zat:∀ {k:Nat} {q:Int×ByteArray},(way.zip lines)[k]? = some q→way[k]? = some q.1∧lines[k]? = some q.2:=fun {k q} h=>List.getElem?_zip_eq_some.1 h
 have hstep:∀ (k:Nat) (q:Int×ByteArray) (b:Nat×List (List ByteArray)×List Bool),(way.zip lines)[k]? = some q→WvI nb lines k b→WvI nb lines (k+1) (zY1 ps b q):=fun k q b hk hI=>by
  obtain ⟨g1,g2⟩:=zat hk
  exact wvI_step hI hp (hw.2 _ (List.mem_of_getElem? g1)) (List.mem_of_getElem? g2)
 constructor
 ·have:=loopE (body:=fun (s':Int×Int×(List (List ByteArray))×(List Bool))=>yJ lines (kS ps) way s'.1 s'.2.1 s'.2.2.1 s'.2.2.2) (fun k (b:Nat×List (List ByteArray)×List Bool)=>((b.1:Int),(k:Int),b.2.1,b.2.2)) (way.zip lines) (fun _ b q=>(.inl (zY1 ps b q):(Nat×List (List ByteArray)×List Bool)⊕(List (List ByteArray)×List Bool))) (fun b=>b.2) (WvI nb lines) (fun k q b hk hkl hI=>by
   left
   refine ⟨_,rfl,?_,hstep k q b hk hI⟩
   obtain ⟨g1,g2⟩:=zat hk
   rw [hzl] at hkl
   have hx:=hw.2 _ (List.mem_of_getElem? g1)
   have hI1:=hI.at_
   have hI2:=hI.bl
   have hI3:=hI.sl
   have hI4:=hI.cn
   show yJ lines (kS ps) way b.1 k b.2.1 b.2.2=_
   unfold yJ zY1
   rw [ifT (by simpa using hkl),zD,g1,Option.bind_some,wkS k (by omega)]
   rcases hx with hx | ⟨h0,h1⟩
   ·have hlt:b.1 < b.2.1.length:=by omega
    have hlen:(b.2.1.getD b.1 []).length≤1000:=by
     rw [List.getD_eq_getElem?_getD,List.getElem?_eq_getElem hlt]
     have:=sumOf_mem (w:=List.length) (List.getElem_mem hlt)
     unfold uT at hI4
     simp only [Option.getD_some]
     omega
    rw [ifF (decide_eq_false (by omega)),if_neg (by omega),zD,List.getElem?_eq_getElem hlt,Option.bind_some,zD,g2,Option.bind_some]
    have e:b.2.1.getD b.1 []=b.2.1[b.1]:=by rw [List.getD_eq_getElem?_getD,List.getElem?_eq_getElem hlt]; rfl
    rw [e] at hlen
    rw [zJ (by simp; omega),Option.bind_some,e,Int.toNat_natCast]
   ·have hlt:q.1.toNat < ps.length:=by omega
    have hpm:ps[q.1.toNat] < nb:=hp _ (List.getElem_mem hlt)
    have e:ps.getD q.1.toNat 0=ps[q.1.toNat]:=by rw [List.getD_eq_getElem?_getD,List.getElem?_eq_getElem hlt]; rfl
    have hgi:zF (kS ps) q.1=some ((ps[q.1.toNat]:Nat):Int):=by
     rw [zC1 h0 (by rw [qO3]; omega)]
     congr 1
     simp [kS]
    have e2:wk .i64 (wk .i64 (((ps[q.1.toNat]:Nat):Int)+1) - 1)=((ps[q.1.toNat]:Nat):Int):=by
     rw [zQ (x:=((ps[q.1.toNat]:Nat):Int)+1) (by omega) (by omega),zQ (by omega) (by omega)]
     omega
    rw [ifT (decide_eq_true h0),if_pos h0,hgi,Option.bind_some,e2,zD,List.getElem?_eq_getElem (by omega),Option.bind_some,e,Int.toNat_natCast,wkS _ (by omega)]) (fun b hI=>by
   show yJ lines (kS ps) way b.1 ((way.zip lines).length:Int) b.2.1 b.2.2=_
   unfold yJ
   rw [hzl,ifF (by simp)]) (b0:=(0,List.replicate (nb+1) [],List.replicate nb false)) (wvI_0 nb lines)
  have e0:((0:Nat):Int)=0:=rfl
  simp only [e0] at this
  rw [this,wv_go]
  rfl
 ·have key:∀ (l:List (Int×ByteArray)) (k:Nat) (b:Nat×List (List ByteArray)×List Bool),(way.zip lines).drop k=l→WvI nb lines k b→WvI nb lines (k+l.length) (l.foldl (zY1 ps) b):=by
   intro l
   induction l with
   | nil=>intro k b _ h; exact h
   | cons q l ih =>
    intro k b hd h
    have hk:(way.zip lines)[k]? = some q:=by
     have:((way.zip lines).drop k)[0]? = some q:=by rw [hd]; rfl
     rwa [List.getElem?_drop] at this
    have:=ih (k+1) (zY1 ps b q) (by
     have:((way.zip lines).drop k).drop 1=l:=by rw [hd]; rfl
     rwa [List.drop_drop] at this) (hstep k q b hk h)
    rw [List.length_cons,List.foldl_cons,show k+(l.length+1)=k+1+l.length by omega]
    exact this
  have:=key (way.zip lines) 0 _ rfl (wvI_0 nb lines)
  rw [Nat.zero_add,hzl] at this
  exact this
end Go.TV.F
namespace Go.TV.F
open Go.TV
theorem getD_app_lt {α:Type} {l:List α} {x d:α} {v:Nat} (h:v < l.length):(l++[x]).getD v d=l.getD v d:=by
 rw [List.getD_eq_getElem?_getD,List.getD_eq_getElem?_getD,List.getElem?_append_left h]
theorem getD_app_eq {α:Type} {l:List α} {x d:α}:(l++[x]).getD l.length d=x:=by
 rw [List.getD_eq_getElem?_getD,List.getElem?_append_right (Nat.le_refl _),Nat.sub_self]
 rfl
theorem gOk_app {g:List (List Int)} {p:List Int} (hg:gOk g=true) (hn:g.length≠40) (hp:p.length≤4) (hr:jW p g.length=true):gOk (g++[p])=true:=by
 have hl:=jH hg
 unfold gOk at *
 simp only [Bool.and_eq_true,decide_eq_true_eq,List.all_eq_true,List.mem_range,List.length_append,List.length_singleton] at *
 refine ⟨by omega,fun v hv=>?_⟩
 rcases Nat.lt_or_ge v g.length with q | q
 ·have:=hg.2 v q
  unfold gAt at *
  rw [getD_app_lt q]
  exact this
 ·have:v=g.length:=by omega
  subst this
  unfold gAt
  rw [getD_app_eq]
  simp only [Bool.and_eq_true,decide_eq_true_eq]
  exact ⟨hp,hr⟩
theorem qD2 {α:Type} {p q:α→Bool}:∀ {l:List α},(∀ x ∈ l,p x=q x)→l.any p=l.any q
 | [],_=>rfl
 | x :: l,h=>by rw [List.any_cons,List.any_cons,h x (by simp),qD2 (fun y hy=>h y (by simp [hy]))]
theorem all_congrK {α:Type} {p q:α→Bool}:∀ {l:List α},(∀ x ∈ l,p x=q x)→l.all p=l.all q
 | [],_=>rfl
 | x :: l,h=>by rw [List.all_cons,List.all_cons,h x (by simp),all_congrK (fun y hy=>h y (by simp [hy]))]
theorem clo_app {g:List (List Int)} {p:List Int} (hg:gOk g=true) (hg':gOk (g++[p])=true):∀ v,v < g.length→clo (g++[p]) v=clo g v:=by
 intro v
 induction v using Nat.strongRecOn with
 | _ v ih =>
  intro hv
  refine Nat.eq_of_testBit_eq (fun u=>?_)
  have hv':v < (g++[p]).length:=by simp; omega
  rw [zZ2 hg' hv' u,zZ2 hg hv u]
  have e:(g++[p])[v]=g[v]:=List.getElem_append_left hv
  rw [e]
  congr 1
  exact qD2 (fun x hx=>by
   have:=zG7 hg hv hx
   rw [ih x.toNat (by omega) (by omega)])
theorem qP0 {g:List (List Int)} (hg:gOk g=true) {d:Int} (h0:0≤d) (h1:d < g.length) (u:Nat):(zK9 g d).testBit u=(g[d.toNat]'(by omega)).any fun x=>(clo g x.toNat).testBit u:=by
 unfold zK9
 rw [qJ6,List.getD_eq_getElem?_getD,List.getElem?_eq_getElem (by omega)]
 rfl
theorem seen_lt {g:List (List Int)} (hg:gOk g=true) {d:Int} (h0:0≤d) (h1:d < g.length) {u:Nat} (hu:(zK9 g d).testBit u=true):(u:Int) < d:=by
 rw [qP0 hg h0 h1,List.any_eq_true] at hu
 obtain ⟨x,hx,hb⟩:=hu
 have:=zG7 hg (show d.toNat < g.length by omega) hx
 have:=clo_le hg (show x.toNat < g.length by omega) hb
 omega
theorem seen_app {g:List (List Int)} {p:List Int} (hg:gOk g=true) (hg':gOk (g++[p])=true) {d:Int} (h0:0≤d) (h1:d < g.length):zK9 (g++[p]) d=zK9 g d:=by
 refine Nat.eq_of_testBit_eq (fun u=>?_)
 rw [qP0 hg' h0 (by simp; omega),qP0 hg h0 h1]
 have e:(g++[p])[d.toNat]'(by simp; omega)=g[d.toNat]'(by omega):=List.getElem_append_left (by omega)
 rw [e]
 exact qD2 (fun x hx=>by
  have:=zG7 hg (show d.toNat < g.length by omega) hx
  rw [clo_app hg hg' x.toNat (by omega)])
def jK (g:List (List Int)) (p:List Int):Nat:=orL (qL g g.length) p
theorem qK1 {g:List (List Int)} {p:List Int} (u:Nat):(jK g p).testBit u=p.any fun x=>(clo g x.toNat).testBit u:=by
 unfold jK
 rw [qJ6]
 rfl
theorem newS_lt {g:List (List Int)} {p:List Int} (hg:gOk g=true) (hr:jW p g.length=true) {u:Nat} (hu:(jK g p).testBit u=true):u < g.length:=by
 rw [qK1,List.any_eq_true] at hu
 obtain ⟨x,hx,hb⟩:=hu
 have:=wX hr hx
 have:=clo_le hg (show x.toNat < g.length by omega) hb
 omega
theorem seen_new {g:List (List Int)} {p:List Int} (hg:gOk g=true) (hg':gOk (g++[p])=true) (hr:jW p g.length=true):zK9 (g++[p]) (g.length:Int)=jK g p:=by
 refine Nat.eq_of_testBit_eq (fun u=>?_)
 rw [qP0 hg' (by omega) (by rw [List.length_append,List.length_singleton]; omega),qK1]
 have e:(g++[p])[(g.length:Int).toNat]'(by simp)=p:=by simp
 rw [e]
 exact qD2 (fun x hx=>by
  have:=wX hr hx
  rw [clo_app hg hg' x.toNat (by omega)])
theorem clo_new {g:List (List Int)} {p:List Int} (hg:gOk g=true) (hg':gOk (g++[p])=true) (hr:jW p g.length=true) (u:Nat):(clo (g++[p]) g.length).testBit u=(decide (u=g.length) || (jK g p).testBit u):=by
 rw [zZ2 hg' (by simp) u,qK1]
 have e:(g++[p])[g.length]'(by simp)=p:=by simp
 rw [e]
 congr 1
 exact qD2 (fun x hx=>by
  have:=wX hr hx
  rw [clo_app hg hg' x.toNat (by omega)])
theorem outB_new {s:Nat} {v:Nat} (h:s.testBit v=false):outB s (v:Int)=true:=by
 unfold outB
 rw [Int.toNat_natCast,h]
 simp
theorem live_upd {s:Nat} {v:Nat} {S:Nat} {st:Bool} {b:T_impl_Body} (h:s.testBit v=false):zV s (updB (v:Int) S st b)=zV s b:=by
 unfold zV updB
 simp only
 split
 ·rw [List.all_append,List.all_cons,List.all_nil,outB_new h,Bool.and_true,Bool.and_true]
 ·rfl
theorem live_newB {s:Nat} {v:Nat} (l:ByteArray) (ord:Int):zV s ⟨l,(v:Int),ord,[]⟩=(inB (v:Int) && s.testBit v):=by
 unfold zV
 simp
theorem qP5 {s:Nat} {v:Nat} (h:s.testBit v=false):∀ (ord:Int) (ls:List ByteArray),(wO (v:Int) ord ls).countP (zV s)=0
 | _,[]=>rfl
 | ord,l :: ls=>by
  rw [wO,List.countP_cons,qP5 h (ord+1) ls,live_newB,h]
  simp
theorem qQ5 {s:Nat} {v S:Nat} (h:s.testBit v=false):∀ (hs:List (List ByteArray)) (ord:Int) (bs:List T_impl_Body) (ss:List Bool),hs.length=bs.length→ss.length=bs.length→(jM (v:Int) S ord hs bs ss).countP (zV s)=bs.countP (zV s)
 | [],_,[],_,_,_=>by simp [jM]
 | h' :: hs,ord,b :: bs,s' :: ss,h1,h2=>by
  simp only [jM,List.countP_cons,List.countP_append]
  rw [qP5 h,qQ5 h hs _ bs ss (by simpa using h1) (by simpa using h2),live_upd h]
  omega
 | [],_,_ :: _,_,h1,_=>by simp at h1
 | _ :: _,_,[],_,h1,_=>by simp at h1
 | _ :: _,_,_ :: _,[],_,h2=>by simp at h2
theorem zP6 {α:Type} (p:α→Bool):∀ (l:List α) (i:Nat),(idxs p l i).length=l.countP p
 | [],_=>rfl
 | x :: l,i=>by
  simp only [idxs,List.countP_cons]
  split
  ·rename_i h
   simp only [List.length_cons,zP6 p l (i+1),h,if_true]
  ·rename_i h
   simp only [zP6 p l (i+1),h,if_false]
   rfl
theorem cnt_own {S c n:Nat} (hc:∀ u,c.testBit u=(decide (u=n) || S.testBit u)) (hn:n≤63) {g:List (List Int)} (hgn:g.length=n):∀ (hs:List (List ByteArray)) (ord:Int) (bs:List T_impl_Body) (ss:List Bool),(∀ b ∈ bs,stat g b=true) →
  (jM (n:Int) S ord hs bs ss).countP (zV c)≤uT hs+trueN ss
 | [],_,_,_,_=>by simp [jM]
 | _ :: _,_,[],_,_=>by simp [jM]
 | _ :: _,_,_ :: _,[],_=>by simp [jM]
 | h :: hs,ord,b :: bs,s :: ss,hb=>by
  have ih:=cnt_own hc hn hgn hs (ord+h.length) bs ss (fun x hx=>hb x (by simp [hx]))
  have hnew:(wO (n:Int) ord h).countP (zV c)≤h.length:=by
   have:=List.countP_le_length (p:=zV c) (l:=wO (n:Int) ord h)
   rwa [zU0] at this
  have hup:(if zV c (updB (n:Int) S s b)=true then 1 else 0)≤(if s=true then 1 else 0):=by
   cases s with
   | true=>split <;> simp
   | false =>
    have:zV c (updB (n:Int) S false b)=false:=by
     have hst:=hb b (by simp)
     obtain ⟨i0,i1⟩:=zZ7 hst
     have hri:jW b.Dels g.length=true:=by
      unfold stat at hst
      simp only [Bool.and_eq_true] at hst
      exact hst.1.2
     have hin:c.testBit b.Ins.toNat=S.testBit b.Ins.toNat:=by
      rw [hc,decide_eq_false (by omega),Bool.false_or]
     have hde:b.Dels.all (outB c)=b.Dels.all (outB S):=all_congrK (fun d hd=>by
      have:=wX hri hd
      unfold outB
      rw [hc,decide_eq_false (by omega),Bool.false_or])
     have hlv:zV c b=zV S b:=by
      unfold zV
      rw [hin,hde]
     unfold updB
     simp only [Bool.not_false,Bool.true_and]
     cases hl:zV S b with
     | true =>
      simp only [if_true]
      unfold zV
      have:outB c (n:Int)=false:=by
       unfold outB
       have h1:c.testBit (n:Int).toNat=true:=by
        rw [Int.toNat_natCast,hc]
        simp
       have h2:inB (n:Int)=true:=by
        unfold inB
        simp
        omega
       rw [h1,h2]
       rfl
      simp [List.all_append,this]
     | false =>
      simp only [Bool.false_eq_true,if_false]
      rw [show (⟨b.Line,b.Ins,b.Ord,b.Dels⟩:T_impl_Body)=b from rfl,hlv,hl]
    rw [this]
    simp
  simp only [jM,List.countP_cons,List.countP_append,uT,kQ,trueN,id] at *
  omega
def setC (c:Int→Int) (v k:Int):Int→Int:=fun y=>if y=v then k else c y
theorem inc_setC (c:Int→Int) (v k:Int):inc (setC c v k) v=setC c v (k+1):=by
 funext y
 unfold inc setC
 split <;> rfl
theorem inc_setC_ne (c:Int→Int) {v x:Int} (k:Int) (h:x≠v):inc (setC c v k) x=setC (inc c x) v k:=by
 funext y
 show (if y=x then (if y=v then k else c y)+1 else (if y=v then k else c y))=if y=v then k else (if y=x then c y+1 else c y)
 by_cases q:y=v
 ·subst q
  rw [if_neg (fun e=>h e.symm),if_pos rfl,if_pos rfl]
 ·rw [if_neg q,if_neg q]
theorem stat_newB {g:List (List Int)} {p:List Int} {l:ByteArray} {ord:Int} (hl:qK l=true):stat (g++[p]) ⟨l,(g.length:Int),ord,[]⟩=true:=by
 unfold stat
 simp only [Bool.and_eq_true,decide_eq_true_eq,List.length_append,List.length_singleton,List.all_nil]
 exact ⟨⟨⟨hl,by omega,by omega⟩,rise_nil _⟩,trivial⟩
theorem okF_newB {g:List (List Int)} {p:List Int} {c:Int→Int} {rest:List T_impl_Body}:∀ (ls:List ByteArray) (ord:Int),(∀ x ∈ ls,qK x=true)→okF (g++[p]) (setC c g.length (ord+ls.length)) rest →
  okF (g++[p]) (setC c g.length ord) (wO g.length ord ls++rest)
 | [],ord,_,h=>by simpa [wO] using h
 | l :: ls,ord,hl,h=>by
  simp only [wO,List.cons_append,okF]
  refine ⟨stat_newB (hl l (by simp)),by simp [setC],?_⟩
  rw [inc_setC]
  refine okF_newB ls (ord+1) (fun x hx=>hl x (by simp [hx])) ?_
  rw [List.length_cons] at h
  rwa [show ord+1+(ls.length:Int)=ord+((ls.length+1:Nat):Int) by omega]
theorem cnts_newB {v:Int} {c:Int→Int} {rest:List T_impl_Body}:∀ (ls:List ByteArray) (ord:Int),cnts (setC c v ord) (wO v ord ls++rest)=cnts (setC c v (ord+ls.length)) rest
 | [],ord=>by simp [wO]
 | l :: ls,ord=>by
  simp only [wO,List.cons_append,cnts]
  rw [inc_setC,cnts_newB ls (ord+1)]
  congr 2
  rw [List.length_cons]
  omega
theorem stat_upd {g:List (List Int)} {p:List Int} {b:T_impl_Body} {s:Bool} (hg:gOk g=true) (hg':gOk (g++[p])=true) (hr:jW p g.length=true) (h:stat g b=true):stat (g++[p]) (updB g.length (jK g p) s b)=true:=by
 have hins:=zZ7 h
 unfold stat at h
 simp only [Bool.and_eq_true,decide_eq_true_eq] at h
 obtain ⟨⟨⟨h1,h2⟩,h3⟩,h4⟩:=h
 have hbit:∀ d ∈ b.Dels,(zK9 g d).testBit g.length=false:=fun d hd=>by
  have:=wX h3 hd
  cases q:(zK9 g d).testBit g.length with
  | false=>rfl
  | true =>
   have:=seen_lt hg this.1 (by omega) q
   omega
 have hSbit:(jK g p).testBit g.length=false:=by
  cases q:(jK g p).testBit g.length with
  | false=>rfl
  | true =>
   have:=newS_lt hg hr q
   omega
 have hold:∀ d ∈ b.Dels,zV (zK9 (g++[p]) d) (updB g.length (jK g p) s b)=true:=fun d hd=>by
  have hdm:=wX h3 hd
  rw [seen_app hg hg' hdm.1 (by omega),live_upd (hbit d hd)]
  exact List.all_eq_true.1 h4 d hd
 unfold stat
 simp only [Bool.and_eq_true,decide_eq_true_eq,List.length_append,List.length_singleton]
 refine ⟨⟨⟨h1,?_,?_⟩,?_⟩,?_⟩
 ·show 0≤b.Ins
  omega
 ·show b.Ins≤_
  omega
 ·show jW (if (!s && zV (jK g p) b)=true then b.Dels++[(g.length:Int)] else b.Dels) _=true
  split
  ·exact rise_snoc h3 (by omega) (by omega)
  ·exact rise_mono h3 (by omega)
 ·rw [List.all_eq_true]
  intro d hd
  have hd:d ∈ (if (!s && zV (jK g p) b)=true then b.Dels++[(g.length:Int)] else b.Dels):=hd
  split at hd
  ·rename_i hc
   rcases List.mem_append.1 hd with hd | hd
   ·exact hold d hd
   ·rw [List.mem_singleton.1 hd,seen_new hg hg' hr,live_upd hSbit]
    simp only [Bool.and_eq_true] at hc
    exact hc.2
  ·exact hold d hd
theorem okF_weaveT {g:List (List Int)} {p:List Int} (hg:gOk g=true) (hg':gOk (g++[p])=true) (hr:jW p g.length=true):∀ (hs:List (List ByteArray)) (ord:Int) (bs:List T_impl_Body) (ss:List Bool) (c:Int→Int),hs.length=bs.length→ss.length=bs.length→(∀ h ∈ hs,∀ x ∈ h,qK x=true)→okF g c bs →
  okF (g++[p]) (setC c g.length ord) (jM g.length (jK g p) ord hs bs ss)∧∀ x:Int,cnts (setC c g.length ord) (jM g.length (jK g p) ord hs bs ss) x=if x=g.length then ord+uT hs else cnts c bs x
 | [],ord,[],ss,c,_,_,_,_=>by
  simp only [jM,okF,cnts,uT,kQ,true_and]
  intro x
  unfold setC
  split <;> simp
 | h :: hs,ord,b :: bs,s :: ss,c,h1,h2,hl,ho=>by
  obtain ⟨o1,o2,o3⟩:=ho
  have hins:=zZ7 o1
  have hne:b.Ins≠(g.length:Int):=by omega
  have ih:=okF_weaveT hg hg' hr hs (ord+h.length) bs ss (inc c b.Ins) (by simpa using h1) (by simpa using h2) (fun y hy=>hl y (by simp [hy])) o3
  have hui:(updB g.length (jK g p) s b).Ins=b.Ins:=rfl
  have huo:(updB g.length (jK g p) s b).Ord=b.Ord:=rfl
  simp only [jM,okF,cnts]
  rw [hui,inc_setC_ne c ord hne,huo]
  refine ⟨⟨stat_upd hg hg' hr o1,?_,okF_newB h ord (hl h (by simp)) ih.1⟩,fun x=>?_⟩
  ·unfold setC
   rw [if_neg hne]
   exact o2
  ·rw [cnts_newB,ih.2 x]
   simp only [uT,kQ]
   split <;> omega
 | [],_,_ :: _,_,_,h1,_,_,_=>by simp at h1
 | _ :: _,_,[],_,_,h1,_,_,_=>by simp at h1
 | _ :: _,_,_ :: _,[],_,_,h2,_,_=>by simp at h2
def addW (w:T_impl_Weave) (p:List Int) (bh:List (List ByteArray)) (st:List Bool):T_impl_Weave:=⟨w.Parents++[p],zB3 w.Parents.length (jK w.Parents p) bh w.Bodies st⟩
theorem addW_ok {w:T_impl_Weave} (h:WR w) {p:List Int} (hp:p.length≤4) (hr:jW p w.Parents.length=true) (hn:w.Parents.length≠40) {bh:List (List ByteArray)} {st:List Bool} (hbl:bh.length=w.Bodies.length+1) (hsl:st.length=w.Bodies.length)
  (hcn:uT bh+trueN st≤80) (hll:∀ y ∈ bh,∀ x ∈ y,qK x=true) (h300:(addW w p bh st).Bodies.length≤300):WR (addW w p bh st):=by
 have hg:=h.g
 have hgl:=jH hg
 have hg':=gOk_app hg hn hp hr
 cases bh with
 | nil=>simp at hbl
 | cons y hs =>
  have hlen:hs.length=w.Bodies.length:=by simpa using hbl
  have e0:c0=setC c0 w.Parents.length 0:=by
   funext z
   unfold setC c0
   split <;> rfl
  have hT:=okF_weaveT hg hg' hr hs (0+y.length) w.Bodies st c0 hlen hsl (fun z hz=>hll z (by simp [hz])) h.o
  have hO:okF (w.Parents++[p]) c0 (zB3 w.Parents.length (jK w.Parents p) (y :: hs) w.Bodies st):=by
   rw [e0]
   unfold zB3
   simp only
   refine okF_newB y 0 (hll y (by simp)) ?_
   rw [Int.zero_add] at hT ⊢
   exact hT.1
  have hC:∀ x:Int,cnts c0 (zB3 w.Parents.length (jK w.Parents p) (y :: hs) w.Bodies st) x=if x=w.Parents.length then (uT (y :: hs):Int) else cnts c0 w.Bodies x:=fun x=>by
   have h1:cnts c0 (zB3 w.Parents.length (jK w.Parents p) (y :: hs) w.Bodies st)=cnts (setC c0 w.Parents.length (0+y.length)) (jM w.Parents.length (jK w.Parents p) y.length hs w.Bodies st):=by
    conv=>lhs; rw [e0]
    unfold zB3
    simp only
    rw [cnts_newB]
   rw [Int.zero_add] at hT h1
   rw [h1,hT.2 x]
   simp only [uT,kQ]
   split <;> omega
  have hcount:∀ s:Nat,(places s (addW w p (y :: hs) st)).length=(wO w.Parents.length 0 y).countP (zV s)+(jM w.Parents.length (jK w.Parents p) y.length hs w.Bodies st).countP (zV s):=fun s=>by
   unfold places
   rw [zP6]
   show (zB3 _ _ (y :: hs) w.Bodies st).countP _=_
   unfold zB3
   rw [List.countP_append]
  refine ⟨hg',h300,hO,fun v hv=>?_,fun v hv=>?_⟩
  ·show cnts c0 (zB3 w.Parents.length (jK w.Parents p) (y :: hs) w.Bodies st) v≤80
   rw [hC]
   split
   ·omega
   ·refine h.b v ?_
    have:v < (w.Parents++[p]).length:=hv
    rw [List.length_append,List.length_singleton] at this
    omega
  ·have hv:v < (w.Parents++[p]).length:=hv
   rw [List.length_append,List.length_singleton] at hv
   show (places (clo (w.Parents++[p]) v) (addW w p (y :: hs) st)).length≤80
   rw [hcount]
   by_cases q:v < w.Parents.length
   ·have hbit:(clo w.Parents v).testBit w.Parents.length=false:=by
     cases z:(clo w.Parents v).testBit w.Parents.length with
     | false=>rfl
     | true =>
      have:=clo_le hg q z
      omega
    rw [clo_app hg hg' v q,qP5 hbit,qQ5 hbit hs _ w.Bodies st hlen hsl]
    have:=h.p v q
    unfold places at this
    rw [zP6] at this
    omega
   ·have:v=w.Parents.length:=by omega
    subst this
    have h1:=cnt_own (S:=jK w.Parents p) (c:=clo (w.Parents++[p]) w.Parents.length) (n:=w.Parents.length) (fun u=>clo_new hg hg' hr u) (by omega) (g:=w.Parents) rfl hs (y.length) w.Bodies st (fun b hb=>zW7 h.o b hb)
    have h2:=List.countP_le_length (p:=zV (clo (w.Parents++[p]) w.Parents.length)) (l:=wO (w.Parents.length:Int) 0 y)
    rw [zU0] at h2
    simp only [uT,kQ] at hcn h1
    omega
end Go.TV.F
namespace Go.TV.F
open Go.TV
theorem l03All_eq {l:List ByteArray} {most:Int} (hx:∀ x ∈ l,x.size≤1000000000) (hll:l.length≤1000000000):zG6 l most=some (decide ((l.length:Int)≤most) && l.all qK):=by
 unfold zG6
 by_cases q:(l.length:Int)≤most
 ·rw [ifF (decide_eq_false (by omega)),decide_eq_true q,Bool.true_and]
  have:=zV4 (body:=fun s'=>yI l s') (good:=.inr ()) (bad:=.inl false) l qK (fun i x hi hil=>by
   unfold yI
   rw [ifT (by simpa using hil),zD,hi,Option.bind_some,lineS_eq (hx x (List.mem_of_getElem? hi)),Option.bind_some,wkS i (by omega)]
   cases qK x <;> rfl) (by
   unfold yI
   rw [ifF (by simp)])
  rw [this]
  cases l.all qK <;> rfl
 ·rw [ifT (decide_eq_true (by omega)),decide_eq_false q]
  rfl
theorem linesOkS_eq {l:List ByteArray} (hx:∀ x ∈ l,x.size≤1000000000) (hll:l.length≤1000000000):zO8 l=some (decide (l.length≤80) && l.all qK):=by
 unfold zO8
 rw [l03All_eq hx hll]
 have:decide ((l.length:Int)≤80)=decide (l.length≤80):=by
  rw [Bool.eq_iff_iff,decide_eq_true_eq,decide_eq_true_eq]
  omega
 rw [this]
 rfl
theorem copy_graph {w:T_impl_Weave} (hl:w.Parents.length≤1000000) (hx:∀ p ∈ w.Parents,p.length≤1000000):zB (fun (s':Int×(List (List Int)))=>yH w s'.1 s'.2) (0,[])=some w.Parents:=by
 have:=loopE (body:=fun (s':Int×(List (List Int)))=>yH w s'.1 s'.2) (fun i b=>((i:Int),b)) w.Parents (fun _ (b:List (List Int)) x=>(.inl (b++[x]):List (List Int)⊕List (List Int))) id (fun i b=>b.length=i) (fun i x b hi hil hI=>by
  left
  refine ⟨_,rfl,?_,by simp [hI]⟩
  show yH w i b=_
  unfold yH
  have:=hx x (List.mem_of_getElem? hi)
  rw [ifT (by simpa using hil),zD,hi,Option.bind_some,zJ (by simp; omega),Option.bind_some,List.nil_append,zJ (by simp; omega),Option.bind_some,wkS i (by omega)]) (fun b hI=>by
  show yH w w.Parents.length b=_
  unfold yH
  rw [ifF (by simp)]
  rfl) (b0:=[]) rfl
 have key:∀ (l:List (List Int)) (i:Nat) (out:List (List Int)),goE (ρ:=List (List Int)) (fun _ (b:List (List Int)) x=>.inl (b++[x])) id l i out=out++l:=by
  intro l
  induction l with
  | nil=>intro i out; simp [goE]
  | cons x l ih=>intro i out; simp only [goE]; rw [ih]; simp
 have e0:((0:Nat):Int)=0:=rfl
 rw [e0] at this
 rw [this,key,List.nil_append]
def addR (w:T_impl_Weave) (p:List Int) (lines:List ByteArray) (way:List Int):T_impl_Weave×Int×Int:=
 let q:=zI0 (places (jK w.Parents p) w) w.Bodies.length (way.zip lines)
 if (addW w p q.2.1 q.2.2).Bodies.length > 300 then (⟨[],[]⟩,0,4) else (addW w p q.2.1 q.2.2,w.Parents.length,0)
noncomputable def zM3 (w:T_impl_Weave) (p:List Int) (lines:List ByteArray):List Int:=(zQ1 (seenL w p) lines).getD []
noncomputable def xB (w:T_impl_Weave) (p:List Int) (lines:List ByteArray):T_impl_Weave×Int×Int:=
 if (decide (p.length≤4) && jW p w.Parents.length)=true then
  (if (decide (lines.length≤80) && lines.all qK)=true then (if w.Parents.length=40 then (⟨[],[]⟩,0,4) else addR w p lines (zM3 w p lines)) else (⟨[],[]⟩,0,3))
 else (⟨[],[]⟩,0,2)
theorem qQ1 {w:T_impl_Weave} (h:WR w) {p:List Int} {lines:List ByteArray} (hll:lines.length≤80) (hl:∀ x ∈ lines,qK x=true):zQ1 (seenL w p) lines=some (zM3 w p lines)∧wayOk (places (jK w.Parents p) w).length lines.length (zM3 w p lines):=by
 have hsl:=seenL_len w p
 have hnb:=h.n
 obtain ⟨way,a1,a2⟩:=align_ok (a:=seenL w p) (b:=lines) (by omega) (by omega) (seenL_line h p) hl
 have hsl2:(seenL w p).length=(places (jK w.Parents p) w).length:=by unfold seenL zA5 jK; rw [List.length_map]
 unfold zM3
 rw [a1,← hsl2]
 exact ⟨rfl,a2⟩
theorem l06Add_eq {w:T_impl_Weave} (h:WR w) {p:List Int} {lines:List ByteArray} (hp:p.length≤1000000000) (hx:∀ x ∈ lines,x.size≤1000000000) (hll:lines.length≤1000000000) :
  zS1 w p lines=some (xB w p lines):=by
 have hs:=h.sm
 have hgl:=jH h.g
 have hnb:=h.n
 unfold zS1 xB
 have e1:zE0 (T_impl_Weave.mk w.Parents w.Bodies) p=_:=l06Parents_eq (w:=w) hs.p hp
 rw [e1,Option.bind_some]
 cases q1:(decide (p.length≤4) && jW p (w.Parents.length:Int)) with
 | false=>rfl
 | true =>
  rw [ifF (b:=!true) rfl,linesOkS_eq hx hll,Option.bind_some,if_pos rfl]
  simp only [Bool.and_eq_true,decide_eq_true_eq] at q1
  cases q2:(decide (lines.length≤80) && lines.all qK) with
  | false=>rfl
  | true =>
   simp only [Bool.and_eq_true,decide_eq_true_eq,List.all_eq_true] at q2
   rw [ifF (b:=!true) rfl,if_pos rfl]
   by_cases q3:w.Parents.length=40
   ·rw [ifT (by simp [q3]),if_pos q3]
   ·rw [ifF (by simp; omega),if_neg q3]
    have hin:=rise_in q1.2
    obtain ⟨g1,g2⟩:=seenS_eq (w:=w) (l:=p) hs (wOk_iff.2 h) hin hp
    have e4:uU (T_impl_Weave.mk w.Parents w.Bodies) p=_:=g1
    rw [e4,Option.bind_some]
    have e5:vR (T_impl_Weave.mk w.Parents w.Bodies) (kS (places (orL (qL w.Parents w.Parents.length) p) w))=_:=g2
    rw [e5,Option.bind_some]
    obtain ⟨a1,a3⟩:=qQ1 h (p:=p) q2.1 q2.2
    rw [a1,Option.bind_some,zQ (x:=(w.Bodies.length:Int)+1) (by omega) (by omega),qD7 (by omega) (by omega),Option.bind_some,qD7 (by omega) (by omega),Option.bind_some]
    have e6:((w.Bodies.length:Int)+1).toNat=w.Bodies.length+1:=by omega
    rw [e6,Int.toNat_natCast]
    obtain ⟨l1,l2⟩:=add_l4 (nb:=w.Bodies.length) a3 (zD3 _ w) hnb (by omega)
    rw [show orL (qL w.Parents w.Parents.length) p=jK w.Parents p from rfl,l1,Option.bind_some]
    unfold zW2
    rw [copy_graph (by omega) (fun y hy=>by
     obtain ⟨i,hi,hie⟩:=List.getElem_of_mem hy
     have:=(zU2 h.g hi).1
     rw [hie] at this
     omega),Option.bind_some]
    unfold zV9
    rw [zJ (by simp; omega),Option.bind_some,List.nil_append,zJ (by simp; omega),Option.bind_some,qA9 h.g hp,Option.bind_some]
    have hag:agree (uZ w.Parents p) (jK w.Parents p):=qL7 h.g (fun x hx=>by
     have:=wX q1.2 hx
     omega)
    have hcn:=l2.cn
    rw [add_bodies hag hs hnb l2.bl l2.sl (by omega) (by omega),Option.bind_some]
    unfold zX2 addR
    simp only
    by_cases q4:(addW w p (zI0 (places (jK w.Parents p) w) w.Bodies.length ((zM3 w p lines).zip lines)).2.1 (zI0 (places (jK w.Parents p) w) w.Bodies.length ((zM3 w p lines).zip lines)).2.2).Bodies.length > 300
    ·rw [if_pos q4,ifT (decide_eq_true (by
      have q5:(zB3 w.Parents.length (jK w.Parents p) (zI0 (places (jK w.Parents p) w) w.Bodies.length ((zM3 w p lines).zip lines)).2.1 w.Bodies (zI0 (places (jK w.Parents p) w) w.Bodies.length ((zM3 w p lines).zip lines)).2.2).length > 300:=q4
      omega))]
    ·rw [if_neg q4,ifF (decide_eq_false (by
      have q5:¬(zB3 w.Parents.length (jK w.Parents p) (zI0 (places (jK w.Parents p) w) w.Bodies.length ((zM3 w p lines).zip lines)).2.1 w.Bodies (zI0 (places (jK w.Parents p) w) w.Bodies.length ((zM3 w p lines).zip lines)).2.2).length > 300:=q4
      omega))]
     rfl
theorem addAll_ok {w:T_impl_Weave} (h:WR w) {p:List Int} {lines:List ByteArray} (h0:(xB w p lines).2.2=0):WR (xB w p lines).1∧(xB w p lines).1.Parents=w.Parents++[p]:=by
 unfold xB at h0 ⊢
 split at h0
 ·rename_i q1
  rw [if_pos q1]
  split at h0
  ·rename_i q2
   rw [if_pos q2]
   split at h0
   ·cases h0
   ·rename_i q3
    rw [if_neg q3]
    unfold addR at h0 ⊢
    simp only at h0 ⊢
    split at h0
    ·cases h0
    ·rename_i q4
     rw [if_neg q4]
     simp only [Bool.and_eq_true,decide_eq_true_eq,List.all_eq_true] at q1 q2
     obtain ⟨a1,a3⟩:=qQ1 h (p:=p) q2.1 q2.2
     obtain ⟨_,l2⟩:=add_l4 (nb:=w.Bodies.length) a3 (zD3 _ w) h.n (by omega)
     have hcn:=l2.cn
     exact ⟨addW_ok h q1.1 q1.2 q3 l2.bl l2.sl (by omega) (fun y hy x hx=>q2.2 x (l2.mm y hy x hx)) (by omega),rfl⟩
  ·cases h0
 ·cases h0
def w0:T_impl_Weave:=⟨[],[]⟩
theorem w0_ok:WR w0:=⟨rfl,by simp [w0],trivial,fun v hv=>by simp [w0] at hv,fun v hv=>by simp [w0] at hv⟩
theorem weaveO_len (v:Int) (S:Nat) (bh:List (List ByteArray)) (bs:List T_impl_Body) (ss:List Bool):(zB3 v S bh bs ss).length≤bs.length+uT bh:=by
 unfold zB3
 cases bh with
 | nil=>simp
 | cons h hs =>
  have:=qO6 v S hs h.length bs ss
  simp only [List.length_append,zU0,uT,kQ] at *
  omega
theorem add_first {lines:List ByteArray} (h80:lines.length≤80) (hl:∀ x ∈ lines,qK x=true):(xB w0 [] lines).2.2=0:=by
 unfold xB
 rw [if_pos (by rfl),if_pos (by simp only [Bool.and_eq_true,decide_eq_true_eq,List.all_eq_true]; exact ⟨h80,hl⟩),if_neg (by simp [w0])]
 unfold addR
 simp only
 obtain ⟨a1,a3⟩:=qQ1 w0_ok (p:=[]) h80 hl
 obtain ⟨_,l2⟩:=add_l4 (nb:=w0.Bodies.length) a3 (zD3 _ w0) w0_ok.n (by omega)
 rw [if_neg]
 have:=weaveO_len (w0.Parents.length:Int) (jK w0.Parents []) (zI0 (places (jK w0.Parents []) w0) w0.Bodies.length ((zM3 w0 [] lines).zip lines)).2.1 w0.Bodies (zI0 (places (jK w0.Parents []) w0) w0.Bodies.length ((zM3 w0 [] lines).zip lines)).2.2
 have hcn:=l2.cn
 have hb:w0.Bodies.length=0:=rfl
 intro q
 have q5:(zB3 w0.Parents.length (jK w0.Parents []) (zI0 (places (jK w0.Parents []) w0) w0.Bodies.length ((zM3 w0 [] lines).zip lines)).2.1 w0.Bodies (zI0 (places (jK w0.Parents []) w0) w0.Bodies.length ((zM3 w0 [] lines).zip lines)).2.2).length > 300:=q
 omega
theorem l01Pick_ok {b:List Int} {c:T_spec_l01Cur} {l:List ByteArray} (hb:b.length≤1000000000) (h:xD b c) (h0:0 < l.length) (h1:l.length≤256):∃ x c',zN1 c l=some (x,c')∧x ∈ l∧xD b c':=by
 unfold zN1
 obtain ⟨x,c',e,g0,g1,_,g3⟩:=zL5 hb h (n:=(l.length:Int)) (by omega)
 have g1:=g1 (by omega)
 have e':jL (T_spec_l01Cur.mk c.b c.i c.h) (l.length:Int)=some (x,c'):=e
 rw [e',Option.bind_some,zC1 g0 (by omega),Option.bind_some]
 exact ⟨_,_,rfl,List.getElem_mem _,g3⟩
theorem lineB_of {s:ByteArray} (h1:s.size≤60) (h2:s.data.toList.all (fun x=>x != 10)=true):qK s=true:=by
 unfold qK nb
 simp only [Bool.and_eq_true,decide_eq_true_eq]
 refine ⟨h1,fun hm=>?_⟩
 obtain ⟨x,hx,e⟩:=List.mem_map.1 hm
 have:=List.all_eq_true.1 h2 x hx
 have hx10:x=10:=UInt8.toNat_inj.1 (by rw [e]; rfl)
 rw [hx10] at this
 cases this
theorem qO7 {b:List Int} {c:T_spec_l01Cur} (hb:b.length≤1000000000) (h:xD b c):∃ x c',zD7 c=some (x,c')∧qK x=true∧xD b c':=by
 unfold zD7
 obtain ⟨x,c',e,g1,g2⟩:=l01Pick_ok hb h (l:=[(ByteArray.mk #[97]),(ByteArray.mk #[98]),(ByteArray.mk #[99]),(ByteArray.mk #[100]),(ByteArray.mk #[101]),(ByteArray.mk #[]),(ByteArray.mk #[105,102,32,120]),(ByteArray.mk #[101,110,100]),(ByteArray.mk #[97]),(ByteArray.mk #[98])]) (by simp) (by simp)
 have e':zN1 (T_spec_l01Cur.mk c.b c.i c.h) [(ByteArray.mk #[97]),(ByteArray.mk #[98]),(ByteArray.mk #[99]),(ByteArray.mk #[100]),(ByteArray.mk #[101]),(ByteArray.mk #[]),(ByteArray.mk #[105,102,32,120]),(ByteArray.mk #[101,110,100]),(ByteArray.mk #[97]),(ByteArray.mk #[98])]=some (x,c'):=e
 rw [e',Option.bind_some]
 have hl:qK x=true:=by
  simp only [List.mem_cons,List.not_mem_nil,or_false] at g1
  clear e e'
  rcases g1 with rfl | rfl | rfl | rfl | rfl | rfl | rfl | rfl | rfl | rfl <;> exact lineB_of (by decide) (by decide)
 exact ⟨_,_,rfl,hl,g2⟩
theorem l03Lines_ok {b:List Int} {c:T_spec_l01Cur} {n:Int} (hb:b.length≤1000000000) (h:xD b c) (h0:0≤n) (h1:n≤100):∃ l c',zR0 c n=some (l,c')∧(l.length:Int)≤n+1∧(∀ x ∈ l,qK x=true)∧xD b c':=by
 unfold zR0
 obtain ⟨r,e1,e2⟩:=loopK1 (f:=fun (s':Int×(List Int)×Int×Int×(List ByteArray))=>zH8 n s'.1 s'.2.1 s'.2.2.1 s'.2.2.2.1 s'.2.2.2.2) (fun s=>0≤s.1∧s.1≤n+1∧(s.2.2.2.2.length:Int)=s.1∧(∀ x ∈ s.2.2.2.2,qK x=true)∧xD b ⟨s.2.1,s.2.2.1,s.2.2.2.1⟩) (fun s=>(n+1 - s.1).toNat)
  (fun r=>(r.2.2.2.length:Int)≤n+1∧(∀ x ∈ r.2.2.2,qK x=true)∧xD b ⟨r.1,r.2.1,r.2.2.1⟩) (s:=(0,c.b,c.i,c.h,[])) ⟨by simp,by simp; omega,by simp,by simp,h⟩ (fun s hs=>by
  obtain ⟨i,cb,ci,ch,out⟩:=s
  simp only at hs ⊢
  obtain ⟨i0,i1,i2,i3,i4⟩:=hs
  unfold zH8
  rw [zQ (x:=n+1) (by omega) (by omega)]
  obtain ⟨x,c',e,g0,g1,_,g3⟩:=zL5 hb i4 (n:=n+1) (by omega)
  have g1:=g1 (by omega)
  rw [e,Option.bind_some]
  by_cases q:i < x
  ·left
   obtain ⟨y,c2,f1,f2,f3⟩:=qO7 hb (c:=⟨c'.b,c'.i,c'.h⟩) g3
   rw [ifT (decide_eq_true q),f1,Option.bind_some,zJ (by simp; omega),Option.bind_some,zQ (by omega) (by omega)]
   refine ⟨_,rfl,⟨by simp only; omega,by simp only; omega,by simp only [List.length_append,List.length_singleton]; omega,fun z hz=>?_,f3⟩,by simp only; omega⟩
   rcases List.mem_append.1 hz with hz | hz
   ·exact i3 z hz
   ·rw [List.mem_singleton.1 hz]
    exact f2
  ·right
   rw [ifF (decide_eq_false q)]
   exact ⟨_,rfl,by simp only; omega,i3,g3⟩)
 rw [e1,Option.bind_some]
 exact ⟨_,_,rfl,e2.1,e2.2.1,e2.2.2⟩
theorem l04Near_ok {b:List Int} {c:T_spec_l01Cur} {a:List ByteArray} (hb:b.length≤1000000000) (h:xD b c) (ha:a.length≤1000) (hl:∀ x ∈ a,qK x=true):∃ l c',zU3 c a=some (l,c')∧l.length≤2 * a.length+1∧(∀ x ∈ l,qK x=true)∧xD b c':=by
 unfold zU3
 obtain ⟨r,e1,e2⟩:=loopK1 (f:=fun (s':Int×(List Int)×Int×Int×(List ByteArray))=>zK5 a s'.1 s'.2.1 s'.2.2.1 s'.2.2.2.1 s'.2.2.2.2) (fun s=>0≤s.1∧s.1≤a.length∧(s.2.2.2.2.length:Int)≤2 * s.1∧(∀ x ∈ s.2.2.2.2,qK x=true)∧xD b ⟨s.2.1,s.2.2.1,s.2.2.2.1⟩) (fun s=>((a.length:Int) - s.1).toNat)
  (fun r=>(r.2.2.2.length:Int)≤2 * a.length∧(∀ x ∈ r.2.2.2,qK x=true)∧xD b ⟨r.1,r.2.1,r.2.2.1⟩) (s:=(0,c.b,c.i,c.h,[])) ⟨by simp,by simp,by simp,by simp,h⟩ (fun s hs=>by
  obtain ⟨i,cb,ci,ch,out⟩:=s
  simp only at hs ⊢
  obtain ⟨i0,i1,i2,i3,i4⟩:=hs
  unfold zK5
  by_cases q:i < a.length
  ·left
   rw [ifT (decide_eq_true q)]
   obtain ⟨x,c',e,g0,g1,_,g3⟩:=zL5 hb i4 (n:=6) (by omega)
   obtain ⟨y,f1,f2⟩:=uP (l:=a) (i:=i) i0 q
   have hy:=hl y (List.mem_of_getElem? f2)
   obtain ⟨z,c2,k1,k2,k3⟩:=qO7 hb (c:=⟨c'.b,c'.i,c'.h⟩) g3
   have w1:wk .i64 (i+1)=i+1:=zQ (by omega) (by omega)
   rw [e,Option.bind_some,f1,k1,w1]
   simp only [Option.bind_some]
   split
   ·rw [zJ (by simp; omega),Option.bind_some]
    refine ⟨_,rfl,⟨by simp only; omega,by simp only; omega,by simp only [List.length_append,List.length_singleton]; omega,fun u hu=>?_,k3⟩,by simp only; omega⟩
    rcases List.mem_append.1 hu with hu | hu
    ·exact i3 u hu
    ·rw [List.mem_singleton.1 hu]
     exact k2
   ·split
    ·rw [zJ (by simp; omega),Option.bind_some]
     refine ⟨_,rfl,⟨by simp only; omega,by simp only; omega,by simp only [List.length_append,List.length_cons,List.length_nil]; omega,fun u hu=>?_,k3⟩,by simp only; omega⟩
     rcases List.mem_append.1 hu with hu | hu
     ·exact i3 u hu
     ·simp only [List.mem_cons,List.not_mem_nil,or_false] at hu
      rcases hu with rfl | rfl
      ·exact k2
      ·exact hy
    ·split
     ·exact ⟨_,rfl,⟨by simp only; omega,by simp only; omega,by simp only; omega,i3,g3⟩,by simp only; omega⟩
     ·rw [zJ (by simp; omega),Option.bind_some]
      refine ⟨_,rfl,⟨by simp only; omega,by simp only; omega,by simp only [List.length_append,List.length_singleton]; omega,fun u hu=>?_,g3⟩,by simp only; omega⟩
      rcases List.mem_append.1 hu with hu | hu
      ·exact i3 u hu
      ·rw [List.mem_singleton.1 hu]
       exact hy
  ·right
   rw [ifF (decide_eq_false q)]
   exact ⟨_,rfl,by simp only; omega,i3,i4⟩)
 rw [e1,Option.bind_some]
 unfold zS6
 obtain ⟨x,c',e,g1⟩:=qI9 hb e2.2.2 (n:=4) (by omega)
 rw [e,Option.bind_some]
 have hlen:=e2.1
 cases x with
 | true =>
  obtain ⟨z,c2,k1,k2,k3⟩:=qO7 hb (c:=⟨c'.b,c'.i,c'.h⟩) g1
  simp only [if_true]
  rw [k1,Option.bind_some,zJ (by simp; omega),Option.bind_some]
  refine ⟨_,_,rfl,by simp only [List.length_append,List.length_singleton]; omega,fun u hu=>?_,k3⟩
  rcases List.mem_append.1 hu with hu | hu
  ·exact e2.2.1 u hu
  ·rw [List.mem_singleton.1 hu]
   exact k2
 | false =>
  exact ⟨_,_,rfl,by omega,e2.2.1,g1⟩
theorem l06Size_ok {b:List Int} (hb:b.length≤1000000000):∃ x,zU9 b=some x∧0≤x∧x≤12:=by
 unfold zU9
 have e:((b.length:Int)).tdiv 25=((b.length / 25:Nat):Int):=tdivK _ 25
 have hd:b.length / 25≤b.length:=Nat.div_le_self _ _
 rw [e,zQ (x:=((b.length / 25:Nat):Int)) (by omega) (by omega),zQ (x:=3+((b.length / 25:Nat):Int)) (by omega) (by omega)]
 split
 ·exact ⟨_,rfl,by decide,by decide⟩
 ·rename_i h
  simp only [decide_eq_true_eq] at h
  exact ⟨_,rfl,by omega,by omega⟩
end Go.TV.F
namespace Go.TV.F
open Go.TV
theorem linesOf_filter {w:T_impl_Weave} (p:T_impl_Body→Bool):zA5 w (idxs p w.Bodies 0)=(w.Bodies.filter p).map (·.Line):=by
 have key:∀ (l pre:List T_impl_Body),w.Bodies=pre++l→(idxs p l pre.length).map (fun i=>(w.Bodies[i]?.map (·.Line)).getD (ByteArray.mk #[]))=(l.filter p).map (·.Line):=by
  intro l
  induction l with
  | nil=>intro pre _; rfl
  | cons x l ih =>
   intro pre h
   have hx:w.Bodies[pre.length]? = some x:=by rw [h]; simp
   have:=ih (pre++[x]) (by simp [h])
   simp only [List.length_append,List.length_singleton] at this
   simp only [idxs,List.filter_cons]
   split
   ·rw [List.map_cons,List.map_cons,this,hx]
    rfl
   ·exact this
 exact key w.Bodies [] rfl
def txt (w:T_impl_Weave) (v:Nat):List ByteArray:=(w.Bodies.filter (zV (clo w.Parents v))).map (·.Line)
theorem txt_eq (w:T_impl_Weave) (v:Nat):zA5 w (places (clo w.Parents v) w)=txt w v:=linesOf_filter _
theorem txt_len {w:T_impl_Weave} (h:WR w) (v:Nat):(txt w v).length≤300:=by
 have:=List.length_filter_le (zV (clo w.Parents v)) w.Bodies
 have:=h.n
 unfold txt
 rw [List.length_map]
 omega
theorem clo_geti {w:T_impl_Weave} (h:WR w) {v:Int} (h0:0≤v) (h1:v < w.Parents.length):zF (us (qL w.Parents w.Parents.length)) v=some ((clo w.Parents v.toNat:Nat):Int):=by
 rw [us_get h0 (by rw [zU4]; exact h1)]
 rfl
theorem extractI {w:T_impl_Weave} (h:WR w) {v:Int} (h0:0≤v) (h1:v < w.Parents.length):zN4 w v=some (txt w v.toNat,0):=by
 have hs:=h.sm
 have hn:=h.n
 unfold zN4 zM6
 have e1:zD4 (T_impl_Weave.mk w.Parents w.Bodies)=some true:=by rw [← wOk_iff.2 h]; exact weaveOkI (w:=w) hs.p hs.d
 have e2:vY (T_impl_Weave.mk w.Parents w.Bodies) [v]=some true:=by
  have:=areVersions_eq (w:=w) (l:=[v]) hs.p (by simp)
  rw [show ([v].all (vIn w.Parents.length))=true by unfold vIn; simp; omega] at this
  exact this
 simp only [e1,e2,Option.bind_some,Bool.not_true,Bool.false_eq_true,if_false]
 rw [ifF (by rfl)]
 unfold kM
 simp only
 rw [qN1 h.g,Option.bind_some,clo_geti h h0 h1,Option.bind_some]
 have e3:wF (T_impl_Weave.mk w.Parents w.Bodies) ((clo w.Parents v.toNat:Nat):Int)=_:=liveIn_eq (w:=w) (clo_lt h.g _) hs.d
 have hpl:=zW4 (clo w.Parents v.toNat) w
 have e4:uN (T_impl_Weave.mk w.Parents w.Bodies) (kS (places (clo w.Parents v.toNat) w))=_:=(qE5 (w:=w) (zD3 _ w) (by omega)).1
 rw [e3,Option.bind_some,e4,txt_eq]
 rfl
theorem textS {w:T_impl_Weave} (h:WR w) {v:Int} (h0:0≤v) (h1:v < w.Parents.length):zN2 w v=some (txt w v.toNat):=by
 have hs:=h.sm
 have hn:=h.n
 unfold zN2
 have e1:yR (T_impl_Weave.mk w.Parents w.Bodies) v=some (uZ w.Parents [v]):=closureS (w:=w) h.g v
 have e2:xZ (T_impl_Weave.mk w.Parents w.Bodies) (uZ w.Parents [v])=some (kS (places (clo w.Parents v.toNat) w)):=qD3 (w:=w) (agree_one h.g h0 h1) hs.d
 have hpl:=zW4 (clo w.Parents v.toNat) w
 have e3:vR (T_impl_Weave.mk w.Parents w.Bodies) (kS (places (clo w.Parents v.toNat) w))=some (txt w v.toNat):=by
  rw [← txt_eq]
  exact (qE5 (w:=w) (zD3 _ w) (by omega)).2
 simp only [e1,e2,e3,Option.bind_some]
theorem extractS {w:T_impl_Weave} (h:WR w) {v:Int} (h0:0≤v) (h1:v < w.Parents.length):zO4 w v=some (txt w v.toNat,0):=by
 have hs:=h.sm
 unfold zO4
 have e1:zO0 (T_impl_Weave.mk w.Parents w.Bodies)=some true:=by rw [← wOk_iff.2 h]; exact weaveOkS (w:=w) hs.p hs.d hs.l
 have e2:zR8 (T_impl_Weave.mk w.Parents w.Bodies) v=some true:=by
  have:=l06Has_eq (w:=w) hs.p v
  rw [show vIn w.Parents.length v=true by unfold vIn; simp; omega] at this
  exact this
 have e3:zN2 (T_impl_Weave.mk w.Parents w.Bodies) v=some (txt w v.toNat):=textS (w:=w) h h0 h1
 simp only [e1,e2,e3,Option.bind_some,Bool.not_true,Bool.false_eq_true,if_false]
theorem big_no {b:List Int} (hb:¬b.length > 1048576):zZ6 b=some false:=by
 unfold zZ6
 rw [decide_eq_false (by omega)]
theorem big_yes {b:List Int} (hb:b.length > 1048576):zZ6 b=some true:=by
 unfold zZ6
 rw [decide_eq_true (by omega)]
structure BIn (n:Nat) (b:T_impl_Body):Prop where
 i0:0≤b.Ins
 i1:b.Ins < n
 d:∀ x ∈ b.Dels,0≤x∧x < n
end Go.TV.F
namespace Go.TV.F
open Go.TV
def zR1 (s:T_impl_Store):List Int:=s.Files.map fun w=>(w.Parents.length:Int)
def fileB (w:T_impl_Weave):Bool:=!((w.Parents.length:Int) == 0) && wOk w
def yL (s:T_impl_Store):Bool:=decide (s.Files.length≤12) && s.Files.all fileB && zQ2 s.Commits (zR1 s)
structure StSm (s:T_impl_Store):Prop where
 c:s.Commits.length≤2000000
 f:s.Files.length≤2000000
 cs:∀ x ∈ s.Commits,smC x
 fs:∀ w ∈ s.Files,WSm w
theorem qM9 {s:T_impl_Store} (h:yL s=true) {w:T_impl_Weave} (hw:w ∈ s.Files):WR w:=by
 unfold yL at h
 simp only [Bool.and_eq_true,List.all_eq_true] at h
 have:=h.1.2 w hw
 unfold fileB at this
 rw [Bool.and_eq_true] at this
 exact wOk_iff.1 this.2
theorem storeB_len {s:T_impl_Store} (h:yL s=true):s.Files.length≤12:=by
 unfold yL at h
 simp only [Bool.and_eq_true,decide_eq_true_eq] at h
 exact h.1.1
theorem weaveExtract {w:T_impl_Weave} (h:WR w) {v:Int} (h0:0≤v) (h1:v < w.Parents.length):kM w v=some (txt w v.toNat):=by
 have hs:=h.sm
 have hc:=clo_lt h.g v.toNat
 unfold kM
 rw [qN1 h.g,Option.bind_some,clo_geti h h0 h1,Option.bind_some,show T_impl_Weave.mk w.Parents w.Bodies=w from rfl,liveIn_eq hc hs.d,Option.bind_some,(qE5 (zD3 _ w) (by have:=zW4 (clo w.Parents v.toNat) w; have:=h.n; omega)).1,txt_eq]
 rfl
def whole (w:T_impl_Weave):Nat:=kQ (fun v=>(txt w v).length) (List.range w.Parents.length)
end Go.TV.F
namespace Go.TV.F
open Go.TV
end Go.TV.F
namespace Go.TV.F
open Go.TV
theorem idS_eq {l:List T_impl_Name} (hl:l.length≤1000000000) (id:Int):qI7 l id=some (idN l id):=by
 unfold qI7 idN
 rw [qL3 l (fun n=>n.Id == id) (fun k x hx hk=>by
  unfold qH3
  rw [ifT (by simpa using hk),zD,hx]
  simp only [Option.bind_some,wkS k (by omega)]
  split <;> rfl) (by
  unfold qH3
  rw [ifF (by simp)])]
 split
 ·rename_i h
  rw [h]
  rfl
 ·rfl
def kV (l:List T_impl_Name) (p:ByteArray):Int:=xX (fun n=>n.Path.toList == p.toList) l
theorem pAtS_eq {l:List T_impl_Name} (hl:l.length≤1000000000) (p:ByteArray):qJ5 l p=some (kV l p):=by
 unfold qJ5 kV
 rw [qL3 l (fun n=>n.Path.toList == p.toList) (fun k x hx hk=>by
  unfold qC6
  rw [ifT (by simpa using hk),zD,hx]
  simp only [Option.bind_some,wkS k (by omega)]
  split <;> rfl) (by
  unfold qC6
  rw [ifF (by simp)])]
 split
 ·rename_i h
  rw [h]
  rfl
 ·rfl
theorem idN_in {l:List T_impl_Name} {id:Int} (h:¬idN l id < 0):0≤idN l id∧(idN l id).toNat < l.length:=by
 have:=fidx_lt (fun n:T_impl_Name=>n.Id == id) l
 unfold idN at *
 omega
theorem pathN_in {l:List T_impl_Name} {p:ByteArray} (h:¬kV l p < 0):0≤kV l p∧(kV l p).toNat < l.length:=by
 have:=fidx_lt (fun n:T_impl_Name=>n.Path.toList == p.toList) l
 unfold kV at *
 omega
theorem geti_D {α:Type} {l:List α} {i:Int} {d:α} (h0:0≤i) (h1:i.toNat < l.length):zF l i=some (l.getD i.toNat d):=by
 obtain ⟨n,rfl⟩:=Int.eq_ofNat_of_zero_le h0
 rw [zD]
 simp only [Int.toNat_natCast] at h1 ⊢
 rw [List.getElem?_eq_getElem h1,qZ h1]
def nmEq (x y:T_impl_Name):Bool:=(x.Path.toList == y.Path.toList) && ((x.Id == y.Id) && (x.Version == y.Version))
def unlikeB (a b:List T_impl_Name) (id:Int):Bool:=
 if (decide (idN a id < 0) || decide (idN b id < 0))=true then (decide (idN a id≥0) || decide (idN b id≥0)) else !(nmEq (a.getD (idN a id).toNat bN) (b.getD (idN b id).toNat bN))
def bC:T_impl_Commit:=⟨[],ByteArray.mk #[],[]⟩
def tB (l:List T_impl_Commit) (c:T_impl_Commit) (id:Nat):Bool:=
 (((c.Parents.length:Int) == 0) && decide (idN c.Names id≥0)) || c.Parents.any fun p=>unlikeB c.Names (l.getD p.toNat bC).Names id
structure CsR (l:List T_impl_Commit):Prop where
 n:∀ c ∈ l,c.Names.length≤12
 p:∀ (k:Nat) (h:k < l.length),∀ x ∈ l[k].Parents,0≤x∧x.toNat < l.length
 q:∀ (k:Nat) (h:k < l.length),l[k].Parents.length≤4
theorem csR_of {l:List T_impl_Commit} {vs:List Int} (h:zQ2 l vs=true):CsR l:=by
 unfold zQ2 at h
 simp only [Bool.and_eq_true,List.all_eq_true,decide_eq_true_eq] at h
 obtain ⟨⟨⟨h1,hg⟩,_⟩,hc⟩:=h
 have hlen:(qG6 l).length=l.length:=by unfold qG6; simp
 have hget:∀ (k:Nat) (h:k < l.length),(qG6 l)[k]'(by omega)=l[k].Parents:=fun k h=>by simp only [qG6,List.getElem_map]
 refine ⟨fun c hc'=>?_,fun k hk x hx=>?_,fun k hk=>?_⟩
 ·have:=hc c hc'
  unfold commitB at this
  simp only [Bool.and_eq_true] at this
  exact namesB_len this.1.2
 ·have:=zG7 hg (v:=k) (by omega) (x:=x) (by rw [hget k hk]; exact hx)
  omega
 ·have:=(zU2 hg (v:=k) (by omega)).1
  rw [hget k hk] at this
  exact this
theorem contains_eq {l:List Int} {v:Int} (hl:l.length≤1000000000):kO l v=some (l.contains v):=by
 unfold kO kW
 rw [qL3 l (fun x=>v == x) (fun k x hx hk=>by
  unfold xE
  rw [ifT (by simpa using hk),zD,hx]
  simp only [Option.bind_some,wkS k (by omega)]
  split <;> rfl) (by
  unfold xE
  rw [ifF (by simp)])]
 have h1:=qB3 (fun x=>v == x) l
 have h2:=qA7 (fun x=>v == x) l
 by_cases q:xX (fun x=>v == x) l = -1
 ·rw [if_pos q]
  have hc:l.contains v=false:=by
   rw [List.contains_eq_any_beq,List.any_eq_false]
   intro x hx
   have:=h1.1 q x hx
   simpa using this
  rw [hc]
  rfl
 ·rw [if_neg q]
  have hc:l.contains v=true:=by
   cases e:l.contains v with
   | true=>rfl
   | false =>
    rw [List.contains_eq_any_beq,List.any_eq_false] at e
    exact absurd (h1.2 fun x hx=>by simpa using e x hx) q
  rw [hc]
  simp only [Option.bind_some]
  congr 1
  exact decide_eq_true (by omega)
theorem qH1 {s:T_impl_Store} (h:yL s=true):CsR s.Commits∧zQ2 s.Commits (zR1 s)=true:=by
 unfold yL at h
 simp only [Bool.and_eq_true] at h
 exact ⟨csR_of h.2,h.2⟩
end Go.TV.F
namespace Go.TV.F
open Go.TV
theorem copyWeave_eq {w:T_impl_Weave} (hp:w.Parents.length≤2000000) (hb:w.Bodies.length≤2000000) (hpp:∀ p ∈ w.Parents,p.length≤2000000) (hd:∀ b ∈ w.Bodies,b.Dels.length≤1000000000):zX3 w=some w:=by
 unfold zX3
 rw [map_loop (body:=fun (s':Int×(List (List Int)))=>zF8 w s'.1 s'.2) w.Parents (fun x=>x) id (by omega) (fun k x out hx hk ho=>by
  have:=hpp x (List.mem_of_getElem? hx)
  simp only [zF8]
  rw [ifT (by simpa using hk),zD,hx,Option.bind_some,zJ (by simp; omega),Option.bind_some,zJ (by simp; omega),Option.bind_some,wkS k (by omega)]
  rfl) (fun out=>by
  simp only [zF8]
  rw [ifF (by simp)]
  rfl),Option.bind_some]
 unfold qD5
 rw [map_loop (body:=fun (s':Int×(List T_impl_Body))=>zF9 w s'.1 s'.2) w.Bodies (fun x=>x) id (by omega) (fun k x out hx hk ho=>by
  have:=hd x (List.mem_of_getElem? hx)
  simp only [zF9]
  rw [ifT (by simpa using hk),zD,hx,Option.bind_some,zJ (by simp; omega),Option.bind_some,zJ (by simp; omega),Option.bind_some,wkS k (by omega)]
  rfl) (fun out=>by
  simp only [zF9]
  rw [ifF (by simp)]
  rfl),Option.bind_some]
 simp [qD8]
theorem WR.copy {w:T_impl_Weave} (h:WR w):zX3 w=some w:=by
 have h1:=jH h.g
 have h2:=h.n
 refine copyWeave_eq (by omega) (by omega) (fun p hp=>?_) (fun b hb=>?_)
 ·obtain ⟨k,hk,rfl⟩:=List.getElem_of_mem hp
  have:=(zU2 h.g hk).1
  omega
 ·exact h.sm.d.2 b hb
def zG1 (n:T_impl_Name):List T_impl_Name→List T_impl_Name
 | []=>[n]
 | x :: l=>if (x.Id == n.Id)=true then zG1 n l else if Op.bytesLess n.Path.toList x.Path.toList=true then n :: x :: l.filter (fun y=>!(y.Id == n.Id)) else x :: zG1 n l
def outN (n:T_impl_Name) (l:List T_impl_Name):List T_impl_Name:=l.filter (fun y=>!(y.Id == n.Id))
theorem put_eq {l:List T_impl_Name} (hl:l.length≤1000000) (n:T_impl_Name):qM6 l n=some (zG1 n l):=by
 have key:∀ (m pre out:List T_impl_Name) (d:Bool),l=pre++m→out.length≤pre.length+d.toNat→∃ d' o',zB (fun (s':Bool×Int×(List T_impl_Name))=>zM9 l n s'.1 s'.2.1 s'.2.2) (d,(pre.length:Int),out)=some (d',o')∧o'.length≤l.length+1∧(if d'=true then o' else o'++[n])=out++(if d=true then outN n m else zG1 n m):=by
  intro m
  induction m with
  | nil =>
   intro pre out d hl2 ho
   rw [List.append_nil] at hl2
   subst hl2
   refine ⟨d,out,?_,by have:d.toNat≤1:=(by cases d <;> simp); omega,?_⟩
   ·rw [zX]
    simp only [zM9]
    rw [ifF (by simp)]
    rfl
   ·cases d <;> simp [outN,zG1]
  | cons x m ih =>
   intro pre out d hl2 ho
   have hd1:d.toNat≤1:=by cases d <;> simp
   have hx:l[pre.length]? = some x:=by rw [hl2]; simp
   have hk:pre.length < l.length:=by rw [hl2]; simp
   have hl3:l=(pre++[x])++m:=by rw [hl2]; simp
   have hlen:(pre++[x]).length=pre.length+1:=by simp
   rw [zX]
   simp only [zM9]
   rw [ifT (by simpa using hk),zD,hx,Option.bind_some,wkS pre.length (by omega)]
   cases q1:(x.Id == n.Id) with
   | true =>
    rw [ifT rfl]
    obtain ⟨d',o',h1,h2,h3⟩:=ih (pre++[x]) out d hl3 (by omega)
    rw [hlen] at h1
    refine ⟨d',o',h1,h2,h3.trans ?_⟩
    simp [outN,zG1,q1]
   | false =>
    rw [ifF rfl]
    have e:(if (!d)=true then some (!(Op.bytesLess x.Path.toList n.Path.toList || x.Path.toList == n.Path.toList)) else some false)=some (!d && Op.bytesLess n.Path.toList x.Path.toList):=by
     rw [bl_tri,Bool.not_not]
     cases d <;> rfl
    rw [e,Option.bind_some]
    cases q2:(!d && Op.bytesLess n.Path.toList x.Path.toList) with
    | true =>
     rw [Bool.and_eq_true] at q2
     have hd:d=false:=by simpa using q2.1
     subst hd
     rw [ifT rfl,zJ (by simp; omega),Option.bind_some]
     unfold zW0
     rw [zD,hx,Option.bind_some,zJ (by simp; omega),Option.bind_some,wkS pre.length (by omega)]
     simp only [Bool.toNat_false] at ho
     obtain ⟨d',o',h1,h2,h3⟩:=ih (pre++[x]) ((out++[n])++[x]) true hl3 (by simp; omega)
     rw [hlen] at h1
     refine ⟨d',o',h1,h2,h3.trans ?_⟩
     simp [outN,zG1,q1,q2.2]
    | false =>
     rw [ifF rfl]
     unfold zW0
     rw [zD,hx,Option.bind_some,zJ (by simp; omega),Option.bind_some,wkS pre.length (by omega)]
     obtain ⟨d',o',h1,h2,h3⟩:=ih (pre++[x]) (out++[x]) d hl3 (by simp; omega)
     rw [hlen] at h1
     refine ⟨d',o',h1,h2,h3.trans ?_⟩
     cases d with
     | true=>simp [outN,q1]
     | false =>
      simp only [Bool.not_false,Bool.true_and] at q2
      simp [zG1,q1,q2]
 obtain ⟨d',o',h1,h2,h3⟩:=key l [] [] false rfl (by simp)
 unfold qM6
 have h1:zB (fun (s':Bool×Int×(List T_impl_Name))=>zM9 l n s'.1 s'.2.1 s'.2.2) (false,0,[])=some (d',o'):=h1
 rw [h1,Option.bind_some]
 unfold qN3
 cases d' with
 | true =>
  rw [ifF (by rfl)]
  simpa using h3
 | false =>
  rw [ifT (by rfl),zJ (by simp; omega),Option.bind_some]
  simpa using h3
theorem qL1 {α σ ρ:Type} {body:Int×σ→Option ((Int×σ)⊕ρ)} (l:List α) (f:σ→α→σ) (I:Nat→σ→Prop) (fin:σ→ρ) (s0:σ) (h0:I 0 s0)
  (hs:∀ (k:Nat) (x:α) (s:σ),l[k]? = some x→k < l.length→I k s→body ((k:Int),s)=some (.inl (((k+1:Nat):Int),f s x))∧I (k+1) (f s x))
  (he:∀ s,body ((l.length:Int),s)=some (.inr (fin s))):zB body (0,s0)=some (fin (l.foldl f s0)):=by
 have key:∀ (m pre:List α) (s:σ),l=pre++m→I pre.length s→zB body ((pre.length:Int),s)=some (fin (m.foldl f s)):=by
  intro m
  induction m with
  | nil =>
   intro pre s hl _
   rw [List.append_nil] at hl
   subst hl
   rw [zX,he]
   rfl
  | cons x m ih =>
   intro pre s hl hI
   obtain ⟨h1,h2⟩:=hs pre.length x s (by rw [hl]; simp) (by rw [hl]; simp) hI
   rw [zX,h1]
   have:=ih (pre++[x]) (f s x) (by rw [hl]; simp) (by simpa using h2)
   rw [List.length_append] at this
   exact this
 exact key l [] s0 rfl h0
def withN (l:List Int) (x:Int):List Int:=(l.filter fun y=>decide (y < x))++[x]++l.filter fun y=>decide (y > x)
theorem filt_from {body:Int×List Int→Option ((Int×List Int)⊕List Int)} (l:List Int) (p:Int→Bool) (o0:List Int)
  (hs:∀ (k:Nat) (x:Int) (out:List Int),l[k]? = some x→k < l.length→out.length≤o0.length+k→body ((k:Int),out)=some (.inl (((k+1:Nat):Int),if p x=true then out++[x] else out)))
  (he:∀ out,body ((l.length:Int),out)=some (.inr out)):zB body (0,o0)=some (o0++l.filter p):=by
 rw [qL1 l (fun out x=>if p x=true then out++[x] else out) (fun k out=>out.length≤o0.length+k) (fun o=>o) o0 (by omega) (fun k x out hx hk ho=>⟨hs k x out hx hk ho,by split <;> (try rw [List.length_append,List.length_singleton]) <;> omega⟩) he]
 congr 1
 clear hs he
 induction l generalizing o0 with
 | nil=>simp
 | cons x l ih =>
  rw [List.foldl_cons,ih]
  cases q:p x <;> simp [q]
theorem with_eq {l:List Int} (hl:l.length≤1000000) (x:Int):qE6 l x=some (withN l x):=by
 unfold qE6
 rw [filt_from (body:=fun (s':Int×(List Int))=>zS2 l x s'.1 s'.2) l (fun y=>decide (y < x)) [] (fun k y out hy hk ho=>by
  simp only [zS2]
  rw [ifT (by simpa using hk),zD,hy,Option.bind_some,zJ (by simp at ho ⊢; omega),wkS k (by omega)]
  split <;> rfl) (fun out=>by
  simp only [zS2]
  rw [ifF (by simp)]),Option.bind_some]
 have h1:=List.length_filter_le (fun y=>decide (y < x)) l
 unfold qK9
 rw [List.nil_append,zJ (by simp; omega),Option.bind_some]
 rw [filt_from (body:=fun (s':Int×(List Int))=>zT0 l x s'.1 s'.2) l (fun y=>decide (y > x)) _ (fun k y out hy hk ho=>by
  simp only [List.length_append,List.length_cons,List.length_nil] at ho
  simp only [zT0]
  rw [ifT (by simpa using hk),zD,hy,Option.bind_some,zJ (by simp; omega),wkS k (by omega)]
  split <;> rfl) (fun out=>by
  simp only [zT0]
  rw [ifF (by simp)]),Option.bind_some]
 rfl
def ofS (l:List T_impl_Commit) (id:Int) (out:List Int) (p:Int):List Int:=
 if idN (l.getD p.toNat bC).Names id < 0 then out else
  withN (out.filter fun x=>x != ((l.getD p.toNat bC).Names.getD (idN (l.getD p.toNat bC).Names id).toNat bN).Version) ((l.getD p.toNat bC).Names.getD (idN (l.getD p.toNat bC).Names id).toNat bN).Version
def ofN (l:List T_impl_Commit) (ps:List Int) (id:Int):List Int:=ps.foldl (ofS l id) []
theorem withN_len (l:List Int) (x:Int):(withN l x).length≤l.length+1+l.length:=by
 have h1:=List.length_filter_le (fun y=>decide (y < x)) l
 have h2:=List.length_filter_le (fun y=>decide (y > x)) l
 unfold withN
 simp only [List.length_append,List.length_cons,List.length_nil]
 omega
theorem ofS_len {l:List T_impl_Commit} {id:Int} {out:List Int} {p:Int} {n:Nat} (h:out.length≤n):(ofS l id out p).length≤2 * n+1:=by
 unfold ofS
 split
 ·omega
 ·refine Nat.le_trans (withN_len _ _) ?_
  have:=List.length_filter_le (fun x=>x != ((l.getD p.toNat bC).Names.getD (idN (l.getD p.toNat bC).Names id).toNat bN).Version) out
  omega
theorem of_eq {l:List T_impl_Commit} (h:CsR l) {ps:List Int} (hp:∀ p ∈ ps,0≤p∧p.toNat < l.length) (hl:ps.length≤4) (id:Int):qP6 l ps id=some (ofN l ps id):=by
 unfold qP6
 rw [qL1 (body:=fun (s':Int×(List Int))=>zY7 l ps id s'.1 s'.2) ps (ofS l id) (fun k out=>out.length+1≤2 ^ k) (fun o=>o) [] (by simp) (fun k p out hx hk ho=>by
  obtain ⟨p0,p1⟩:=hp p (List.mem_of_getElem? hx)
  have hn:=h.n (l.getD p.toNat bC) (by rw [qZ p1]; exact List.getElem_mem p1)
  have h16:2 ^ k≤2 ^ 3:=Nat.pow_le_pow_right (by decide) (by omega)
  have hb:=ofS_len (l:=l) (id:=id) (out:=out) (p:=p) (n:=2 ^ k - 1) (by omega)
  have hf:=List.length_filter_le (fun x=>x != ((l.getD p.toNat bC).Names.getD (idN (l.getD p.toNat bC).Names id).toNat bN).Version) out
  refine ⟨?_,by rw [Nat.pow_succ]; omega⟩
  simp only [zY7]
  rw [ifT (by simpa using hk),zD,hx,Option.bind_some,geti_D (d:=bC) p0 p1,Option.bind_some,idS_eq (by omega),Option.bind_some,wkS k (by omega)]
  unfold ofS
  by_cases q:idN (l.getD p.toNat bC).Names id < 0
  ·rw [ifF (decide_eq_false (by omega)),if_pos q]
  ·obtain ⟨g1,g2⟩:=idN_in q
   rw [ifT (decide_eq_true (by omega)),if_neg q,geti_D (d:=bN) g1 g2,Option.bind_some,qR0 (by omega),Option.bind_some,with_eq (by omega),Option.bind_some]) (fun out=>by
  simp only [zY7]
  rw [ifF (by simp)])]
 rfl
end Go.TV.F
namespace Go.TV.F
open Go.TV
def uF {σ α:Type} (f:σ→α→Option σ):List α→σ→Option σ
 | [],s=>some s
 | x :: l,s=>(f s x).bind (uF f l)
theorem qP4 {σ α:Type} (f:σ→α→Option σ):∀ (l m:List α) (s:σ),uF f (l++m) s=(uF f l s).bind (uF f m)
 | [],_,_=>rfl
 | x :: l,m,s=>by
  rw [List.cons_append]
  unfold uF
  cases f s x with
  | none=>rfl
  | some s'=>exact qP4 f l m s'
theorem qL2 {σ α:Type} {f:σ→α→Option σ} {x:α} {l:List α} {s s':σ} (h:f s x=some s'):uF f (x :: l) s=uF f l s':=by
 simp only [uF,h,Option.bind_some]
def fromR {σ R:Type} (fin:σ→R) (bad:R):Option σ→R
 | some s=>fin s
 | none=>bad
theorem run_loop {σ α S R:Type} {body:S→Option (S⊕R)} (mk:Nat→σ→S) (l:List α) (f:σ→α→Option σ) (I:Nat→σ→Prop) (bad:R) (fin:σ→R) (s0:σ) (h0:I 0 s0)
  (hs:∀ (k:Nat) (x:α) (s:σ),l[k]? = some x→k < l.length→I k s→(∃ s',f s x=some s'∧body (mk k s)=some (.inl (mk (k+1) s'))∧I (k+1) s')∨(f s x=none∧body (mk k s)=some (.inr bad)))
  (he:∀ s,I l.length s→body (mk l.length s)=some (.inr (fin s))) :
  zB body (mk 0 s0)=some (fromR fin bad (uF f l s0))∧∀ s,uF f l s0=some s→I l.length s:=by
 have key:∀ (m pre:List α) (s:σ),l=pre++m→I pre.length s→zB body (mk pre.length s)=some (fromR fin bad (uF f m s))∧∀ s',uF f m s=some s'→I l.length s':=by
  intro m
  induction m with
  | nil =>
   intro pre s hl hI
   have hp:pre.length=l.length:=by rw [hl,List.append_nil]
   rw [hp] at hI ⊢
   rw [zX,he s hI]
   exact ⟨rfl,fun s' q=>by injection q with q; subst q; exact hI⟩
  | cons x m ih =>
   intro pre s hl hI
   have hx:l[pre.length]? = some x:=by rw [hl]; simp
   have hk:pre.length < l.length:=by rw [hl]; simp
   rw [zX]
   rcases hs pre.length x s hx hk hI with ⟨s',h1,h2,h3⟩ | ⟨h1,h2⟩
   ·rw [h2]
    have:=ih (pre++[x]) s' (by rw [hl]; simp) (by rw [List.length_append]; exact h3)
    rw [List.length_append] at this
    rw [qL2 h1]
    exact this
   ·rw [h2]
    have:uF f (x :: m) s=none:=by simp only [uF,h1,Option.bind_none]
    rw [this]
    exact ⟨rfl,fun s' q=>by cases q⟩
 exact key l [] s0 rfl h0
theorem sorted_ext:∀ {l m:List Int},l.Pairwise (· < ·)→m.Pairwise (· < ·)→(∀ x,x ∈ l↔x ∈ m)→l=m
 | [],[],_,_,_=>rfl
 | [],y :: m,_,_,h=>by have:=(h y).2 (by simp); cases this
 | x :: l,[],_,_,h=>by have:=(h x).1 (by simp); cases this
 | x :: l,y :: m,h1,h2,h=>by
  have h1':=List.pairwise_cons.1 h1
  have h2':=List.pairwise_cons.1 h2
  have hxy:x=y:=by
   rcases List.mem_cons.1 ((h x).1 (by simp)) with e | e
   ·exact e
   ·rcases List.mem_cons.1 ((h y).2 (by simp)) with e2 | e2
    ·exact e2.symm
    ·have a:=h2'.1 x e
     have b:=h1'.1 y e2
     omega
  subst hxy
  congr 1
  refine sorted_ext h1'.2 h2'.2 (fun z=>⟨fun q=>?_,fun q=>?_⟩)
  ·rcases List.mem_cons.1 ((h z).1 (by simp [q])) with e | e
   ·have:=h1'.1 z q
    omega
   ·exact e
  ·rcases List.mem_cons.1 ((h z).2 (by simp [q])) with e | e
   ·have:=h2'.1 z q
    omega
   ·exact e
theorem pw_nodup {l:List Int} (h:l.Pairwise (· < ·)):l.Nodup:=h.imp (fun h=>by omega)
theorem pw_len {n:Int}:∀ (l:List Int) (a:Int),a≤n→l.Pairwise (· < ·)→(∀ x ∈ l,a≤x∧x < n)→(l.length:Int)≤n - a
 | [],a,h,_,_=>by simp; omega
 | x :: l,a,h,h1,h2=>by
  have h1':=List.pairwise_cons.1 h1
  have hx:=h2 x (by simp)
  have:=pw_len l (x+1) (by omega) h1'.2 (fun y hy=>⟨by have:=h1'.1 y hy; omega,(h2 y (by simp [hy])).2⟩)
  rw [List.length_cons]
  omega
theorem rise_pw {l:List Int} {n:Int} (h:jW l n=true):l.Pairwise (· < ·):=by
 have hc:∀ i,i+1 < l.length→l.getD i 0 < l.getD (i+1) 0:=fun i hi=>by
  have:=List.all_eq_true.1 h (i+1) (List.mem_range.2 hi)
  unfold zD5 at this
  simp only [Bool.and_eq_true,Bool.or_eq_true,decide_eq_true_eq,Nat.add_sub_cancel] at this
  rcases this.2 with q | q
  ·simp at q
  ·exact q
 have key:∀ d i,i+d+1 < l.length→l.getD i 0 < l.getD (i+d+1) 0:=by
  intro d
  induction d with
  | zero=>intro i hi; exact hc i hi
  | succ d ih =>
   intro i hi
   have a:=ih i (by omega)
   have b:=hc (i+d+1) (by omega)
   rw [show i+(d+1)+1=i+d+1+1 by omega]
   omega
 rw [List.pairwise_iff_getElem]
 intro i j hi hj hij
 have:=key (j - i - 1) i (by omega)
 rw [show i+(j - i - 1)+1=j by omega,List.getD_eq_getElem?_getD,List.getD_eq_getElem?_getD,List.getElem?_eq_getElem hi,List.getElem?_eq_getElem hj] at this
 exact this
def sortI (l:List Int):List Int:=l.mergeSort fun x y=>decide (x≤y)
theorem sortI_eq {l e:List Int} (hl:l.Nodup) (he:e.Pairwise (· < ·)) (h:∀ x,x ∈ l↔x ∈ e):sortI l=e:=by
 have hp:(sortI l).Perm l:=List.mergeSort_perm _ _
 have hs:(sortI l).Pairwise (fun x y=>decide (x≤y)=true):=List.pairwise_mergeSort (fun a b c h1 h2=>by simp at h1 h2 ⊢; omega) (fun a b=>by simp; omega) l
 have hn:(sortI l).Nodup:=hp.nodup_iff.2 hl
 refine sorted_ext ?_ he (fun x=>(hp.mem_iff).trans (h x))
 have:=hs.and hn
 exact this.imp (fun h=>by have h1:=of_decide_eq_true h.1; have h2:=h.2; omega)
abbrev eB:ByteArray:=ByteArray.mk #[]
def mDE (d e:List Int):List T_impl_Rec:=(d.reverse.filter fun x=>!e.contains x).map fun x=>⟨5,x,eB⟩
def mD (d e:List Int):List T_impl_Rec:=(e.filter fun x=>!d.contains x).map fun x=>⟨4,x,eB⟩
def mIE (i j:Int):List T_impl_Rec:=if (i != j && decide (i≥0))=true then [⟨3,i,eB⟩] else []
def mI (i j:Int):List T_impl_Rec:=if (i != j && decide (j≥0))=true then [⟨2,j,eB⟩] else []
def mk4 (i:Int) (d:List Int) (j:Int) (e:List Int):List T_impl_Rec:=mDE d e++mIE i j++mI i j++mD d e
def goR:Int→List Int→List T_impl_Body→List T_impl_Rec
 | i,d,[]=>mk4 i d (-1) []
 | i,d,b :: bs=>mk4 i d b.Ins b.Dels++⟨1,0,b.Line⟩ :: goR b.Ins b.Dels bs
def zF6 (o:T_impl_walker) (r:T_impl_Rec):Option T_impl_walker:=
 if (r.Kind == 2)=true then (if o.open_=true then none else some ⟨true,r.Version,o.dels⟩)
 else if (r.Kind == 3)=true then (if (!o.open_ || o.ins != r.Version)=true then none else some ⟨false,o.ins,o.dels⟩)
 else if (r.Kind == 4)=true then (if o.dels.contains r.Version=true then none else some ⟨o.open_,o.ins,o.dels++[r.Version]⟩)
 else if (r.Kind == 5)=true then (if o.dels.contains r.Version=true then some ⟨o.open_,o.ins,o.dels.erase r.Version⟩ else none)
 else if (r.Kind == 1)=true then (if o.open_=true then some o else none)
 else none
structure Ws (o:T_impl_walker) (i:Int) (d:List Int):Prop where
 op:o.open_=decide (i≥0)
 ins:0≤i→o.ins=i
 nd:o.dels.Nodup
 mem:∀ x,x ∈ o.dels↔x ∈ d
theorem run_DE:∀ (l:List Int) (o:T_impl_walker),o.dels.Nodup→l.Nodup→(∀ x ∈ l,x ∈ o.dels) →
  ∃ o',uF zF6 (l.map fun x=>⟨5,x,eB⟩) o=some o'∧o'.open_=o.open_∧o'.ins=o.ins∧o'.dels.Nodup∧∀ x,x ∈ o'.dels↔x ∈ o.dels∧x ∉ l
 | [],o,h,_,_=>⟨o,rfl,rfl,rfl,h,fun x=>by simp⟩
 | y :: l,o,h,h1,h2=>by
  have hn:=List.nodup_cons.1 h1
  have hy:o.dels.contains y=true:=by simpa using h2 y (by simp)
  have hm:∀ x,x ∈ o.dels.erase y↔x≠y∧x ∈ o.dels:=fun x=>h.mem_erase_iff
  obtain ⟨o',g1,g2,g3,g4,g5⟩:=run_DE l ⟨o.open_,o.ins,o.dels.erase y⟩ (h.erase y) hn.2 (fun x hx=>(hm x).2 ⟨fun e=>hn.1 (e ▸ hx),h2 x (by simp [hx])⟩)
  refine ⟨o',?_,g2,g3,g4,fun x=>?_⟩
  ·rw [List.map_cons,qL2 (s':=⟨o.open_,o.ins,o.dels.erase y⟩) (by simp [zF6,h2 y (by simp)])]
   exact g1
  ·rw [g5 x]
   show x ∈ o.dels.erase y∧_↔_
   rw [hm x,List.mem_cons]
   constructor
   ·rintro ⟨⟨a,b⟩,c⟩
    exact ⟨b,fun q=>q.elim a c⟩
   ·rintro ⟨a,b⟩
    exact ⟨⟨fun q=>b (.inl q),a⟩,fun q=>b (.inr q)⟩
theorem run_D:∀ (l:List Int) (o:T_impl_walker),o.dels.Nodup→l.Nodup→(∀ x ∈ l,x ∉ o.dels) →
  ∃ o',uF zF6 (l.map fun x=>⟨4,x,eB⟩) o=some o'∧o'.open_=o.open_∧o'.ins=o.ins∧o'.dels.Nodup∧∀ x,x ∈ o'.dels↔x ∈ o.dels∨x ∈ l
 | [],o,h,_,_=>⟨o,rfl,rfl,rfl,h,fun x=>by simp⟩
 | y :: l,o,h,h1,h2=>by
  have hn:=List.nodup_cons.1 h1
  have hy:o.dels.contains y=false:=by simpa using h2 y (by simp)
  have hnd:(o.dels++[y]).Nodup:=by
   rw [List.nodup_append]
   refine ⟨h,by simp,fun a ha b hb=>?_⟩
   simp only [List.mem_singleton] at hb
   subst hb
   rintro rfl
   exact h2 a (by simp) ha
  obtain ⟨o',g1,g2,g3,g4,g5⟩:=run_D l ⟨o.open_,o.ins,o.dels++[y]⟩ hnd hn.2 (fun x hx=>by
   show x ∉ o.dels++[y]
   simp only [List.mem_append,List.mem_singleton,not_or]
   exact ⟨h2 x (by simp [hx]),fun e=>hn.1 (e ▸ hx)⟩)
  refine ⟨o',?_,g2,g3,g4,fun x=>?_⟩
  ·rw [List.map_cons,qL2 (s':=⟨o.open_,o.ins,o.dels++[y]⟩) (by simp [zF6,h2 y (by simp)])]
   exact g1
  ·rw [g5 x]
   show x ∈ o.dels++[y]∨_↔_
   simp only [List.mem_append,List.mem_singleton,List.mem_cons,or_assoc,List.not_mem_nil,false_or]
theorem mk4_run {o:T_impl_walker} {i j:Int} {d e:List Int} (h:Ws o i d) (hd:d.Nodup) (he:e.Nodup):∃ o',uF zF6 (mk4 i d j e) o=some o'∧Ws o' j e:=by
 obtain ⟨o1,a1,a2,a3,a4,a5⟩:=run_DE (d.reverse.filter fun x=>!e.contains x) o h.nd (((List.reverse_perm d).nodup_iff.2 hd).filter _) (fun x hx=>by
  rw [List.mem_filter] at hx
  exact (h.mem x).2 (by simpa using hx.1))
 have b:∃ o2,uF zF6 (mIE i j++mI i j) o1=some o2∧o2.open_=decide (j≥0)∧(0≤j→o2.ins=j)∧o2.dels=o1.dels:=by
  unfold mIE mI
  have hop:o1.open_=decide (i≥0):=a2.trans h.op
  by_cases hij:i=j
  ·subst hij
   refine ⟨o1,by simp [uF],hop,fun q=>by rw [a3]; exact h.ins q,rfl⟩
  ·have hne:(i != j)=true:=by simpa using hij
   rw [hne,Bool.true_and,Bool.true_and]
   by_cases hi:0≤i <;> by_cases hj:0≤j
   ·have e1:decide (i≥0)=true:=by simpa using hi
    have e2:decide (j≥0)=true:=by simpa using hj
    have hins:o1.ins=i:=by rw [a3]; exact h.ins hi
    rw [e1] at hop
    rw [if_pos e1,if_pos e2,e2]
    refine ⟨⟨true,j,o1.dels⟩,?_,rfl,fun _=>rfl,rfl⟩
    simp [uF,zF6,hop,hins]
   ·have e1:decide (i≥0)=true:=by simpa using hi
    have e2:decide (j≥0)=false:=by simpa using hj
    have hins:o1.ins=i:=by rw [a3]; exact h.ins hi
    rw [e1] at hop
    rw [if_pos e1,if_neg (by simp [e2]),e2]
    refine ⟨⟨false,o1.ins,o1.dels⟩,?_,rfl,fun q=>absurd q hj,rfl⟩
    simp [uF,zF6,hop,hins]
   ·have e1:decide (i≥0)=false:=by simpa using hi
    have e2:decide (j≥0)=true:=by simpa using hj
    rw [e1] at hop
    rw [if_neg (by simp [e1]),if_pos e2,e2]
    refine ⟨⟨true,j,o1.dels⟩,?_,rfl,fun _=>rfl,rfl⟩
    simp [uF,zF6,hop]
   ·have e1:decide (i≥0)=false:=by simpa using hi
    have e2:decide (j≥0)=false:=by simpa using hj
    rw [e1] at hop
    rw [if_neg (by simp [e1]),if_neg (by simp [e2]),e2]
    exact ⟨o1,rfl,hop,fun q=>absurd q hj,rfl⟩
 obtain ⟨o2,b1,b2,b3,b4⟩:=b
 have hm1:∀ x,x ∈ o1.dels↔x ∈ d∧x ∈ e:=fun x=>by
  rw [a5,h.mem,List.mem_filter]
  simp only [List.mem_reverse,Bool.not_eq_true',not_and,Bool.not_eq_false]
  constructor
  ·rintro ⟨p,q⟩
   exact ⟨p,by simpa using q p⟩
  ·rintro ⟨p,q⟩
   exact ⟨p,fun _=>by simpa using q⟩
 obtain ⟨o3,c1,c2,c3,c4,c5⟩:=run_D (e.filter fun x=>!d.contains x) o2 (by rw [b4]; exact a4) (he.filter _) (fun x hx q=>by
  rw [b4,hm1] at q
  rw [List.mem_filter] at hx
  have:=hx.2
  simp at this
  exact this q.1)
 refine ⟨o3,?_,c2.trans b2,fun q=>by rw [c3]; exact b3 q,c4,fun x=>?_⟩
 ·unfold mk4 mDE mD
  rw [List.append_assoc,List.append_assoc,qP4,a1,Option.bind_some,← List.append_assoc,qP4,b1,Option.bind_some]
  exact c1
 ·rw [c5,b4,hm1,List.mem_filter]
  constructor
  ·rintro (q | q)
   ·exact q.2
   ·exact q.1
  ·intro q
   by_cases hx:x ∈ d
   ·exact .inl ⟨hx,q⟩
   ·exact .inr ⟨q,by simpa using hx⟩
theorem mk4_kind {i j:Int} {d e:List Int}:∀ r ∈ mk4 i d j e,(r.Kind == 1)=false:=fun r hr=>by
 unfold mk4 mDE mIE mI mD at hr
 simp only [List.mem_append,List.mem_map] at hr
 rcases hr with ((⟨x,_,rfl⟩ | hr) | hr) | ⟨x,_,rfl⟩
 ·rfl
 ·split at hr
  ·obtain rfl:=List.mem_singleton.1 hr
   rfl
  ·cases hr
 ·split at hr
  ·obtain rfl:=List.mem_singleton.1 hr
   rfl
  ·cases hr
 ·rfl
structure Fst where
 o:T_impl_walker
 born:List Int
 bs:List T_impl_Body
def xP (n:Nat) (s:Fst) (r:T_impl_Rec):Option Fst:=
 (zF6 s.o r).bind fun o=>if (r.Kind == 1)=true then
  (if (decide (0≤o.ins) && decide (o.ins < (n:Int)))=true then some ⟨o,s.born.set o.ins.toNat (s.born.getD o.ins.toNat 0+1),s.bs++[⟨r.Line,o.ins,s.born.getD o.ins.toNat 0,sortI o.dels⟩]⟩ else none)
  else some ⟨o,s.born,s.bs⟩
theorem qQ2 {n:Nat}:∀ (l:List T_impl_Rec) (s:Fst),(∀ r ∈ l,(r.Kind == 1)=false)→uF (xP n) l s=(uF zF6 l s.o).map fun o=>⟨o,s.born,s.bs⟩
 | [],s,_=>rfl
 | r :: l,s,h=>by
  have hr:=h r (by simp)
  unfold uF
  cases q:zF6 s.o r with
  | none=>simp only [xP,q,Option.bind_none,Option.map_none]
  | some o =>
   have:xP n s r=some ⟨o,s.born,s.bs⟩:=by simp only [xP,q,Option.bind_some,hr,Bool.false_eq_true,if_false]
   rw [this,Option.bind_some,Option.bind_some,qQ2 l _ (fun x hx=>h x (by simp [hx]))]
theorem goR_run {g:List (List Int)}:∀ (bs:List T_impl_Body) (c:Int→Int) (i:Int) (d:List Int) (o:T_impl_walker) (born:List Int) (acc:List T_impl_Body),okF g c bs→Ws o i d→d.Nodup→born.length=g.length→(∀ v:Nat,v < g.length→born.getD v 0=c v) →
  ∃ s,uF (xP g.length) (goR i d bs) ⟨o,born,acc⟩=some s∧s.bs=acc++bs∧Ws s.o (-1) []
 | [],c,i,d,o,born,acc,_,h,hd,_,_=>by
  obtain ⟨o',h1,h2⟩:=mk4_run (j:=-1) (e:=[]) h hd List.nodup_nil
  refine ⟨⟨o',born,acc⟩,?_,by simp,h2⟩
  unfold goR
  rw [qQ2 _ _ mk4_kind,h1]
  rfl
 | b :: bs,c,i,d,o,born,acc,hk,h,hd,hl,hc=>by
  obtain ⟨k1,k2,k3⟩:=hk
  obtain ⟨i0,i1⟩:=zZ7 k1
  have hrise:jW b.Dels g.length=true:=by
   unfold stat at k1
   simp only [Bool.and_eq_true] at k1
   exact k1.1.2
  have hpw:=rise_pw hrise
  obtain ⟨o',h1,h2⟩:=mk4_run (j:=b.Ins) (e:=b.Dels) h hd (pw_nodup hpw)
  have hop:o'.open_=true:=by rw [h2.op]; simpa using i0
  have hin:o'.ins=b.Ins:=h2.ins i0
  have hb:born.getD b.Ins.toNat 0=b.Ord:=by
   rw [hc b.Ins.toNat (by omega),k2]
   congr 1
   omega
  obtain ⟨s,g1,g2,g3⟩:=goR_run bs (inc c b.Ins) b.Ins b.Dels o' (born.set b.Ins.toNat (born.getD b.Ins.toNat 0+1)) (acc++[b]) k3 h2 (pw_nodup hpw) (by rw [List.length_set]; exact hl) (fun v hv=>by
   rw [qL5]
   unfold inc
   by_cases e:(v:Int)=b.Ins
   ·have e2:b.Ins.toNat=v:=by omega
    rw [if_pos ⟨e2,by omega⟩,if_pos e,e2,hc v hv]
   ·rw [if_neg (fun h=>e (by omega)),if_neg e,hc v hv])
  refine ⟨s,?_,by rw [g2,List.append_assoc]; rfl,g3⟩
  unfold goR
  rw [qP4,qQ2 _ _ mk4_kind,h1,Option.map_some,Option.bind_some]
  rw [qL2 (s':=⟨o',born.set b.Ins.toNat (born.getD b.Ins.toNat 0+1),acc++[b]⟩)]
  ·exact g1
  ·have hmk:zF6 o' ⟨1,0,b.Line⟩=some o':=by simp [zF6,hop]
   simp only [xP,hmk,Option.bind_some,beq_self_eq_true,if_true,hin,hb]
   rw [if_pos (by simp; omega),sortI_eq h2.nd hpw h2.mem]
structure Gst where
 i:Int
 d:List Int
 born:List Int
 bs:List T_impl_Body
def Gok (n:Nat) (s:Gst):Prop:=s.d.Pairwise (· < ·)∧(∀ x ∈ s.d,0≤x∧x < (n:Int))∧s.bs.length≤300
theorem Gok.small {n:Nat} {s:Gst} (h:Gok n s) (hn:n≤40):(decide (s.d.length > 40) || decide (s.bs.length > 300))=false:=by
 have:=pw_len s.d 0 (by omega) h.1 h.2.1
 have h3:=h.2.2
 simp
 omega
end Go.TV.F
namespace Go.TV.F
open Go.TV
theorem iter_cj {σ τ ρ:Type} {f:τ→Option (τ⊕ρ)} {g:σ→Option (σ⊕ρ)} (φ:σ→τ) (h:∀ s,f (φ s)=(g s).map (Sum.map φ id)):∀ (n:Nat) (s:σ),iter f n (φ s)=iter g n s
 | 0,_=>rfl
 | n+1,s=>by
  simp only [iter]
  rw [h s]
  cases g s with
  | none=>rfl
  | some r =>
   cases r with
   | inl s'=>exact iter_cj φ h n s'
   | inr r=>rfl
theorem loopM_cj {σ τ ρ:Type} {f:τ→Option (τ⊕ρ)} {g:σ→Option (σ⊕ρ)} (φ:σ→τ) (h:∀ s,f (φ s)=(g s).map (Sum.map φ id)) (s:σ):zB f (φ s)=zB g s:=by
 apply Option.ext
 intro r
 rw [loopM_iff,loopM_iff]
 constructor
 ·rintro ⟨n,h1⟩
  exact ⟨n,by rw [← iter_cj φ h n s]; exact h1⟩
 ·rintro ⟨n,h1⟩
  exact ⟨n,by rw [iter_cj φ h n s]; exact h1⟩
theorem back_loop {α β ρ:Type} {body:Int×List β→Option ((Int×List β)⊕ρ)} (l:List α) (p:α→Bool) (f:α→β) (fin:List β→ρ)
  (hs:∀ (k:Nat) (x:α) (out:List β),l[k]? = some x→k < l.length→out.length≤l.length→body ((k:Int),out)=some (.inl ((k:Int) - 1,if p x=true then out++[f x] else out)))
  (he:∀ out,body (-1,out)=some (.inr (fin out))):zB body ((l.length:Int) - 1,[])=some (fin ((l.reverse.filter p).map f)):=by
 have h:=zC8 (body:=body) (r:=fin ((l.reverse.filter p).map f)) (fun j=>((l.length:Int) - 1 - j,((l.reverse.take j).filter p).map f)) l.length (fun j hj=>by
  have hk:(l.length:Int) - 1 - (j:Int)=((l.length - 1 - j:Nat):Int):=by omega
  have hx:l[l.length - 1 - j]? = some (l[l.length - 1 - j]'(by omega)):=List.getElem?_eq_getElem (by omega)
  have hlen:(((l.reverse.take j).filter p).map f).length≤l.length:=by
   rw [List.length_map]
   refine Nat.le_trans (List.length_filter_le _ _) ?_
   rw [List.length_take,List.length_reverse]
   omega
  rw [hk,hs _ _ _ hx (by omega) hlen]
  have hr:l.reverse[j]? = some (l[l.length - 1 - j]'(by omega)):=by
   rw [List.getElem?_reverse (by omega)]
   exact hx
  rw [List.take_add_one,hr]
  have e1:((l.length - 1 - j:Nat):Int) - 1=(l.length:Int) - 1 - ((j+1:Nat):Int):=by omega
  rw [e1]
  simp only [Option.toList,List.filter_append,List.map_append]
  cases q:p (l[l.length - 1 - j]'(by omega)) <;> simp [q]) (by
  have:(l.length:Int) - 1 - (l.length:Int) = -1:=by omega
  rw [this,he,List.take_of_length_le (by rw [List.length_reverse]; exact Nat.le_refl _)])
 simpa using h
theorem filtm_loop {α β ρ:Type} {body:Int×List β→Option ((Int×List β)⊕ρ)} (l:List α) (p:α→Bool) (f:α→β) (fin:List β→ρ) (o0:List β)
  (hs:∀ (k:Nat) (x:α) (out:List β),l[k]? = some x→k < l.length→out.length≤o0.length+k→body ((k:Int),out)=some (.inl (((k+1:Nat):Int),if p x=true then out++[f x] else out)))
  (he:∀ out,body ((l.length:Int),out)=some (.inr (fin out))):zB body (0,o0)=some (fin (o0++(l.filter p).map f)):=by
 rw [qL1 l (fun out x=>if p x=true then out++[f x] else out) (fun k out=>out.length≤o0.length+k) fin o0 (by omega) (fun k x out hx hk ho=>⟨hs k x out hx hk ho,by split <;> (try rw [List.length_append,List.length_singleton]) <;> omega⟩) he]
 congr 2
 clear hs he
 induction l generalizing o0 with
 | nil=>simp
 | cons x l ih =>
  rw [List.foldl_cons,ih]
  cases q:p x <;> simp [q]
theorem mDE_len (d e:List Int):(mDE d e).length≤d.length:=by
 unfold mDE
 rw [List.length_map]
 refine Nat.le_trans (List.length_filter_le _ _) ?_
 rw [List.length_reverse]
 omega
theorem mD_len (d e:List Int):(mD d e).length≤e.length:=by
 unfold mD
 rw [List.length_map]
 exact List.length_filter_le _ _
theorem mk4_len (i:Int) (d:List Int) (j:Int) (e:List Int):(mk4 i d j e).length≤d.length+e.length+2:=by
 have h1:=mDE_len d e
 have h2:=mD_len d e
 have h3:(mIE i j).length≤1:=by unfold mIE; split <;> simp
 have h4:(mI i j).length≤1:=by unfold mI; split <;> simp
 unfold mk4
 simp only [List.length_append]
 omega
theorem marksI {i:Int} {d:List Int} {j:Int} {e:List Int} (hd:d.length≤100000000) (he:e.length≤100000000):zW1 i d j e=some (mk4 i d j e):=by
 unfold zW1
 have h1:=mDE_len d e
 rw [zQ (by omega) (by omega)]
 rw [back_loop (body:=fun (s':Int×(List T_impl_Rec))=>zJ4 d e s'.1 s'.2) d (fun x=>!e.contains x) (fun x=>(⟨5,x,eB⟩:T_impl_Rec)) id (fun k x out hx hk ho=>by
  simp only [zJ4]
  rw [ifT (by simp),zD,hx,Option.bind_some,contains_eq (by omega),Option.bind_some,zJ (by simp; omega),zQ (by omega) (by omega)]
  cases e.contains x <;> rfl) (fun out=>by
  simp only [zJ4]
  rw [ifF (by simp)]
  rfl)]
 rw [Option.bind_some]
 change zR5 i d j e (mDE d e)=_
 have hb:∀ (c q:Bool),(if c=true then some q else some false)=some (c && q):=fun c q=>by cases c <;> rfl
 have hl:∀ out:List T_impl_Rec,out.length≤200000000→zJ1 d e out=some (out++mD d e):=fun out ho=>by
  unfold zJ1
  rw [filtm_loop (body:=fun (s':Int×(List T_impl_Rec))=>zJ5 d e s'.1 s'.2) e (fun x=>!d.contains x) (fun x=>(⟨4,x,eB⟩:T_impl_Rec)) id out (fun k x out' hx hk ho'=>by
   simp only [zJ5]
   rw [ifT (by simpa using hk),zD,hx,Option.bind_some,contains_eq (by omega),Option.bind_some,zJ (by simp; omega),wkS k (by omega)]
   cases d.contains x <;> rfl) (fun out'=>by
   simp only [zJ5]
   rw [ifF (by simp)]
   rfl)]
  rfl
 have h2:∀ out:List T_impl_Rec,out.length≤150000000→zJ0 i d j e out=some (out++mI i j++mD d e):=fun out ho=>by
  unfold zJ0 mI
  rw [hb,Option.bind_some]
  cases q:(i != j && decide (j≥0)) with
  | true=>rw [if_pos rfl,if_pos rfl,zJ (by simp; omega),Option.bind_some,hl _ (by simp; omega)]
  | false=>rw [if_neg (by simp),if_neg (by simp),hl _ (by omega),List.append_nil]
 unfold zR5 mk4 mIE
 rw [hb,Option.bind_some]
 cases q:(i != j && decide (i≥0)) with
 | true=>rw [if_pos rfl,if_pos rfl,zJ (by simp; omega),Option.bind_some,h2 _ (by simp; omega)]
 | false=>rw [if_neg (by simp),if_neg (by simp),h2 _ (by omega),List.append_nil]
def recS (s:Int×List Int×List T_impl_Rec) (b:T_impl_Body):Int×List Int×List T_impl_Rec:=(b.Ins,b.Dels,s.2.2++mk4 s.1 s.2.1 b.Ins b.Dels++[⟨1,0,b.Line⟩])
def xF (w:T_impl_Weave):List T_impl_Rec:=goR (-1) [] w.Bodies
theorem qQ7 (i:Int) (d:List Int) (b:T_impl_Body) (bs:List T_impl_Body):goR i d (b :: bs)=mk4 i d b.Ins b.Dels++⟨1,0,b.Line⟩ :: goR b.Ins b.Dels bs:=by rw [goR]
theorem recS_go:∀ (bs:List T_impl_Body) (i:Int) (d:List Int) (acc:List T_impl_Rec),(bs.foldl recS (i,d,acc)).2.2++mk4 (bs.foldl recS (i,d,acc)).1 (bs.foldl recS (i,d,acc)).2.1 (-1) []=acc++goR i d bs
 | [],i,d,acc=>rfl
 | b :: bs,i,d,acc=>by
  rw [List.foldl_cons]
  rw [show recS (i,d,acc) b=(b.Ins,b.Dels,acc++mk4 i d b.Ins b.Dels++[⟨1,0,b.Line⟩]) from rfl,recS_go bs b.Ins b.Dels,qQ7]
  simp
def delsSm (w:T_impl_Weave):Prop:=w.Bodies.length≤100000∧∀ b ∈ w.Bodies,b.Dels.length≤100000
theorem delsSm.ok {w:T_impl_Weave} (h:delsSm w):qE8 w:=⟨by have:=h.1; omega,fun b hb=>by have:=h.2 b hb; omega⟩
def recI (k:Nat) (s:Int×List Int×List T_impl_Rec):Prop:=s.2.1.length≤100000∧s.2.2.length≤k * 200003
theorem recI_step {w:T_impl_Weave} (hw:delsSm w) {k:Nat} {b:T_impl_Body} {s:Int×List Int×List T_impl_Rec} (hb:w.Bodies[k]? = some b) (h:recI k s):recI (k+1) (recS s b):=by
 have hl:=hw.2 b (List.mem_of_getElem? hb)
 have:=mk4_len s.1 s.2.1 b.Ins b.Dels
 obtain ⟨h1,h2⟩:=h
 refine ⟨hl,?_⟩
 show (s.2.2++mk4 s.1 s.2.1 b.Ins b.Dels++[(⟨1,0,b.Line⟩:T_impl_Rec)]).length≤_
 rw [List.length_append,List.length_append,List.length_singleton]
 omega
theorem recs_end {w:T_impl_Weave} (hw:delsSm w):recI w.Bodies.length (w.Bodies.foldl recS (-1,[],[])):=by
 have key:∀ (m pre:List T_impl_Body) (s:Int×List Int×List T_impl_Rec),w.Bodies=pre++m→recI pre.length s→recI w.Bodies.length (m.foldl recS s):=by
  intro m
  induction m with
  | nil=>intro pre s h hI; rw [h,List.append_nil]; exact hI
  | cons b m ih =>
   intro pre s h hI
   rw [List.foldl_cons]
   refine ih (pre++[b]) _ (by rw [h]; simp) ?_
   rw [List.length_append]
   exact recI_step hw (by rw [h]; simp) hI
 exact key w.Bodies [] _ rfl ⟨by simp,by simp⟩
theorem recordsI {w:T_impl_Weave} (hw:delsSm w):zP1 w=some (xF w):=by
 unfold zP1
 have hn:=hw.1
 have hloop:zB (fun (s':Int×(List Int)×Int×(List T_impl_Rec))=>wK w s'.1 s'.2.1 s'.2.2.1 s'.2.2.2) ((-1),[],0,[])=some ((w.Bodies.foldl recS (-1,[],[]))):=by
  have:=loopM_cj (f:=fun (s':Int×(List Int)×Int×(List T_impl_Rec))=>wK w s'.1 s'.2.1 s'.2.2.1 s'.2.2.2) (g:=fun (s:Int×(Int×List Int×List T_impl_Rec))=>(wK w s.2.1 s.2.2.1 s.1 s.2.2.2).map (Sum.map (fun (t:Int×(List Int)×Int×(List T_impl_Rec))=>(t.2.2.1,t.1,t.2.1,t.2.2.2)) id)) (fun s=>(s.2.1,s.2.2.1,s.1,s.2.2.2)) (fun s=>by
   cases wK w s.2.1 s.2.2.1 s.1 s.2.2.2 with
   | none=>rfl
   | some x=>cases x <;> rfl) (0,-1,[],[])
  rw [this]
  refine qL1 (fin:=id) w.Bodies recS recI (-1,[],[]) ⟨by simp,by simp⟩ (fun k b s hb hk hI=>⟨?_,recI_step hw hb hI⟩) (fun s=>?_)
  ·obtain ⟨h1,h2⟩:=hI
   have hl:=hw.2 b (List.mem_of_getElem? hb)
   have hm:=mk4_len s.1 s.2.1 b.Ins b.Dels
   have h3:k * 200003≤100000 * 200003:=Nat.mul_le_mul_right _ (by omega)
   simp only [wK]
   rw [ifT (by simpa using hk),zD,hb,Option.bind_some,marksI (by omega) (by omega),Option.bind_some,zJ (by omega),Option.bind_some,zJ (by simp; omega),Option.bind_some,wkS k (by omega)]
   rfl
  ·simp only [wK]
   rw [ifF (by simp)]
   rfl
 rw [hloop,Option.bind_some]
 obtain ⟨h1,h2⟩:=recs_end hw
 have h3:w.Bodies.length * 200003≤100000 * 200003:=Nat.mul_le_mul_right _ (by omega)
 have hm:=mk4_len (w.Bodies.foldl recS (-1,[],[])).1 (w.Bodies.foldl recS (-1,[],[])).2.1 (-1) []
 simp only [List.length_nil] at hm
 unfold zT2
 rw [marksI (by omega) (by simp),Option.bind_some,zJ (by omega),Option.bind_some,recS_go]
 rfl
def recB (w:T_impl_Weave):List T_impl_Rec×Bool:=if wOk w=true then (if (xF w).length > 4000 then ([],false) else (xF w,true)) else ([],false)
theorem RecordsI {w:T_impl_Weave} (hp:w.Parents.length≤1000) (hw:delsSm w):zO5 w=some (recB w):=by
 unfold zO5 recB
 rw [show T_impl_Weave.mk w.Parents w.Bodies=w from rfl,weaveOkI (by omega) hw.ok,Option.bind_some,recordsI hw]
 cases wOk w with
 | false=>rfl
 | true =>
  simp only [Bool.not_true,Bool.false_eq_true,if_false,Option.bind_some,if_true,decide_eq_true_eq]
  by_cases h:(xF w).length > 4000
  ·rw [if_pos (by omega),if_pos h]
  ·rw [if_neg (by omega),if_neg h]
end Go.TV.F
namespace Go.TV.F
open Go.TV
noncomputable def eqQ {α:Type} (a b:α):Bool:=@decide (a=b) (Classical.propDecidable _)
theorem eqQ_iff {α:Type} {a b:α}:eqQ a b=true↔a=b:=by unfold eqQ; exact @decide_eq_true_iff _ (Classical.propDecidable _)
theorem bool_ext {a b:Bool} (h:a=true↔b=true):a=b:=by cases a <;> cases b <;> simp_all
theorem rec_eq {x y:T_impl_Rec}:((x.Kind == y.Kind) && ((x.Version == y.Version) && (x.Line.toList == y.Line.toList)))=eqQ x y:=by
 refine bool_ext ?_
 rw [eqQ_iff,Bool.and_eq_true,Bool.and_eq_true,beq_iff_eq,beq_iff_eq,beq_nb,decide_eq_true_iff]
 constructor
 ·rintro ⟨h1,h2,h3⟩
  cases x
  cases y
  simp only at h1 h2 h3
  rw [h1,h2,nb_inj h3]
 ·rintro rfl
  exact ⟨rfl,rfl,rfl⟩
theorem list_eq_all {α:Type} {a b:List α} (h:a.length=b.length):((List.range a.length).all fun k=>eqQ a[k]? b[k]?)=eqQ a b:=by
 refine bool_ext ?_
 rw [eqQ_iff,List.all_eq_true]
 constructor
 ·intro hk
  apply List.ext_getElem?
  intro k
  by_cases q:k < a.length
  ·exact eqQ_iff.1 (hk k (List.mem_range.2 q))
  ·rw [List.getElem?_eq_none (by omega),List.getElem?_eq_none (by omega)]
 ·rintro rfl k _
  exact eqQ_iff.2 rfl
theorem opt_eq {α:Type} {x y:α}:eqQ (some x) (some y)=eqQ x y:=bool_ext (by rw [eqQ_iff,eqQ_iff,Option.some.injEq])
theorem same_loop {body:Int→Option (Int⊕(Bool⊕Unit))} {a b:List T_impl_Rec} (h:a.length=b.length) (hl:a.length≤1000000000)
  (hs:∀ (k:Nat) (x y:T_impl_Rec),a[k]? = some x→b[k]? = some y→k < a.length→body (k:Int)=some (if (!((x.Kind == y.Kind) && ((x.Version == y.Version) && (x.Line.toList == y.Line.toList))))=true then .inr (.inl false) else .inl ((k+1:Nat):Int)))
  (he:body (a.length:Int)=some (.inr (.inr ()))):zB body 0=some (if eqQ a b=true then .inr () else .inl false):=by
 rw [← list_eq_all h]
 refine all_loopN a.length _ (fun k hk _=>?_) he
 rw [hs k a[k] (b[k]'(by omega)) (List.getElem?_eq_getElem hk) (List.getElem?_eq_getElem (by omega)) hk,rec_eq,List.getElem?_eq_getElem hk,List.getElem?_eq_getElem (by omega:k < b.length),opt_eq]
 cases eqQ a[k] (b[k]'(by omega)) <;> rfl
theorem len_ne {a b:Nat}:(((a:Int)) != (b:Int))=!decide (a=b):=by
 by_cases h:a=b
 ·subst h; simp
 ·have:¬((a:Int)=b):=by omega
  simp [h,this]
theorem equalI_eq {a b:List T_impl_Rec} (hl:a.length≤1000000000):xM a b=some (eqQ a b):=by
 unfold xM
 rw [len_ne]
 by_cases h:a.length=b.length
 ·rw [ifF (by simp [h]),same_loop (body:=fun (s':Int)=>qV a b s') h hl (fun k x y hx hy hk=>by
   simp only [qV]
   rw [ifT (by simpa using hk),zD,hx,Option.bind_some,zD,hy,Option.bind_some,wkS k (by omega)]
   cases (!((x.Kind == y.Kind) && ((x.Version == y.Version) && (x.Line.toList == y.Line.toList)))) <;> rfl) (by
   simp only [qV]
   rw [ifF (by simp)])]
  cases eqQ a b <;> rfl
 ·rw [ifT (by simp [h])]
  have:eqQ a b=false:=by
   cases q:eqQ a b with
   | false=>rfl
   | true=>rw [eqQ_iff] at q; exact absurd (by rw [q]) h
  rw [this]
def w00:T_impl_Weave×Bool:=(⟨[],[]⟩,false)
theorem gOk_rows {g:List (List Int)} (hg:gOk g=true):∀ p ∈ g,p.length≤1000000:=fun p hp=>by
 obtain ⟨i,hi,rfl⟩:=List.getElem_of_mem hp
 have:=(zU2 hg hi).1
 omega
end Go.TV.F
namespace Go.TV.F
open Go.TV
theorem l06Right_okJ {J:T_impl_Weave→Prop} (hJ0:J w0) (hJ:∀ w p ls,WR w→J w→p.length≤4→(∀ x ∈ ls,qK x=true)→ls.length≤30→(xB w p ls).2.2=0→J (xB w p ls).1) {b:List Int} {c:T_spec_l01Cur} {n:Int} (hb:b.length≤1000000000) (h:xD b c) (h0:0≤n) (h1:n≤60):∃ w c',zR2 c n=some (w,c')∧(WR w∧J w)∧(0 < n→0 < w.Parents.length)∧(w.Parents.length:Int)≤n∧xD b c':=by
 unfold zR2
 obtain ⟨r,e1,e2⟩:=loopK1 (f:=fun (s':Int×(List Int)×Int×Int×(List (List Int))×(List T_impl_Body))=>zH5 n s'.1 s'.2.1 s'.2.2.1 s'.2.2.2.1 s'.2.2.2.2.1 s'.2.2.2.2.2) (fun s=>0≤s.1∧s.1≤n∧xD b ⟨s.2.1,s.2.2.1,s.2.2.2.1⟩∧(WR ⟨s.2.2.2.2.1,s.2.2.2.2.2⟩∧J ⟨s.2.2.2.2.1,s.2.2.2.2.2⟩)∧(s.2.2.2.2.1.length:Int)≤s.1∧(s.1=0→s.2.2.2.2.1=[]∧s.2.2.2.2.2=[])∧(0 < s.1→0 < s.2.2.2.2.1.length)) (fun s=>(n - s.1).toNat)
  (fun r=>xD b ⟨r.1,r.2.1,r.2.2.1⟩∧(WR ⟨r.2.2.2.1,r.2.2.2.2⟩∧J ⟨r.2.2.2.1,r.2.2.2.2⟩)∧(r.2.2.2.1.length:Int)≤n∧(0 < n→0 < r.2.2.2.1.length)) (s:=(0,c.b,c.i,c.h,[],[])) ⟨by simp,by simp; omega,h,⟨w0_ok,hJ0⟩,by simp,fun _=>⟨rfl,rfl⟩,fun q=>by simp at q⟩ (fun s hs=>by
  obtain ⟨v,cb,ci,ch,w2,w3⟩:=s
  simp only at hs ⊢
  obtain ⟨i0,i1,i2,⟨i3,iJ⟩,i4,i5,i6⟩:=hs
  unfold zH5
  by_cases q:v < n
  ·left
   rw [ifT (decide_eq_true q)]
   obtain ⟨p,c1,p1,p2,p3⟩:=l05Parents_ok hb i2 (n:=v) i0 (by omega)
   have hpl:=p2.1
   have hwn:(⟨w2,w3⟩:T_impl_Weave).Bodies.length≤300:=i3.n
   -- what the parents see,whether they are right or not
   have seenT:∃ l,uU (T_impl_Weave.mk w2 w3) p=some (kS l)∧vR (T_impl_Weave.mk w2 w3) (kS l)=some (zA5 ⟨w2,w3⟩ l)∧(zA5 ⟨w2,w3⟩ l).length≤300∧∀ x ∈ zA5 ⟨w2,w3⟩ l,qK x=true:=by
    have hag:agree (uZ w2 p) (orL (qL w2 w2.length) (p.filter fun x=>decide (0≤x) && decide (x < (w2.length:Int)))):=by
     refine ⟨by rw [setL_len]; have:=jH i3.g; show w2.length≤64; have h2:(⟨w2,w3⟩:T_impl_Weave).Parents=w2:=rfl; rw [h2] at this; omega,fun u=>?_⟩
     rw [Bool.eq_iff_iff,setL_get i3.g,qJ6,List.any_eq_true]
     constructor
     ·rintro ⟨x,h1,h2,h3,h4⟩
      exact ⟨x,List.mem_filter.2 ⟨h1,by simp; exact ⟨h2,h3⟩⟩,h4⟩
     ·rintro ⟨x,h1,h4⟩
      obtain ⟨h1,h2⟩:=List.mem_filter.1 h1
      simp at h2
      exact ⟨x,h1,h2.1,h2.2,h4⟩
    have hpl2:=zW4 (orL (qL w2 w2.length) (p.filter fun x=>decide (0≤x) && decide (x < (w2.length:Int)))) ⟨w2,w3⟩
    refine ⟨places (orL (qL w2 w2.length) (p.filter fun x=>decide (0≤x) && decide (x < (w2.length:Int)))) ⟨w2,w3⟩,?_,?_,?_,?_⟩
    ·unfold uU
     rw [qA9 i3.g (by omega),Option.bind_some]
     have e3:xZ (T_impl_Weave.mk w2 w3) (uZ w2 p)=_:=qD3 (w:=⟨w2,w3⟩) hag i3.sm.d
     exact (congrArg (fun z:Option (List Int)=>z.bind _) e3).trans rfl
    ·exact (qE5 (w:=⟨w2,w3⟩) (zD3 _ _) (by omega)).2
    ·unfold zA5
     rw [List.length_map]
     omega
    ·intro x hx
     unfold zA5 at hx
     obtain ⟨i,hi,rfl⟩:=List.mem_map.1 hx
     have:=zD3 _ _ i hi
     rw [List.getElem?_eq_getElem this]
     exact i3.line (List.getElem_mem this)
   obtain ⟨sl,s1,s2,s3,s4⟩:=seenT
   rw [p1,Option.bind_some,s1,Option.bind_some,s2,Option.bind_some]
   obtain ⟨near,c2,n1,n2,n3,n4⟩:=l04Near_ok hb (c:=⟨c1.b,c1.i,c1.h⟩) p3 (by omega) s4
   rw [n1,Option.bind_some]
   -- the end: a version more,or not
   have fin:∀ (cc:T_spec_l01Cur) (ls:List ByteArray),xD b cc→(∀ x ∈ ls,qK x=true)→ls.length≤30→(v=0→ls.length≤80)→∃ s',zB9 v w2 w3 (p,c1) cc.b cc.i cc.h ls=some (.inl s')∧(0≤s'.1∧s'.1≤n∧xD b ⟨s'.2.1,s'.2.2.1,s'.2.2.2.1⟩∧(WR ⟨s'.2.2.2.2.1,s'.2.2.2.2.2⟩∧J ⟨s'.2.2.2.2.1,s'.2.2.2.2.2⟩)∧(s'.2.2.2.2.1.length:Int)≤s'.1∧(s'.1=0→s'.2.2.2.2.1=[]∧s'.2.2.2.2.2=[])∧(0 < s'.1→0 < s'.2.2.2.2.1.length))∧(n - s'.1).toNat < (n - v).toNat:=fun cc ls hcc hls hlen hv0=>by
    unfold zB9
    have ea:zS1 (T_impl_Weave.mk w2 w3) p ls=_:=l06Add_eq (w:=⟨w2,w3⟩) i3 (by omega) (fun x hx=>by
     have:=hls x hx
     unfold qK at this
     simp only [Bool.and_eq_true,decide_eq_true_eq] at this
     omega) (by omega)
    have w1:wk .i64 (v+1)=v+1:=zQ (by omega) (by omega)
    rw [ea,Option.bind_some,w1]
    by_cases q5:(xB ⟨w2,w3⟩ p ls).2.2=0
    ·rw [ifT (by simpa using q5)]
     obtain ⟨a1,a2⟩:=addAll_ok i3 q5
     have a2':(xB ⟨w2,w3⟩ p ls).1.Parents=w2++[p]:=a2
     refine ⟨_,rfl,⟨by simp only; omega,by simp only; omega,hcc,⟨a1,hJ _ _ _ i3 iJ hpl hls hlen q5⟩,?_,fun z=>by simp only at z; omega,fun _=>?_⟩,by simp only; omega⟩
     ·simp only
      rw [a2',List.length_append,List.length_singleton]
      omega
     ·simp only
      rw [a2',List.length_append,List.length_singleton]
      omega
    ·rw [ifF (by simpa using q5)]
     refine ⟨_,rfl,⟨by simp only; omega,by simp only; omega,hcc,⟨i3,iJ⟩,by simp only; omega,fun z=>by simp only at z; omega,fun _=>?_⟩,by simp only; omega⟩
     simp only
     rcases Int.lt_or_eq_of_le i0 with z | z
     ·exact i6 z
     ·exfalso
      have hv:v=0:=z.symm
      obtain ⟨hw2,hw3⟩:=i5 hv
      subst hv
      subst hw2
      subst hw3
      have hp0:p=[]:=by
       have:=qP7 (n:=0) p2.2
       exact List.eq_nil_of_length_eq_zero (by omega)
      subst hp0
      exact q5 (add_first (hv0 rfl) hls)
   have j2:∀ (cc:T_spec_l01Cur) (ls:List ByteArray),xD b cc→(∀ x ∈ ls,qK x=true)→ls.length≤1000→(v=0→ls.length≤30)→∃ s',zB8 v w2 w3 (p,c1) cc.b cc.i cc.h ls=some (.inl s')∧(0≤s'.1∧s'.1≤n∧xD b ⟨s'.2.1,s'.2.2.1,s'.2.2.2.1⟩∧(WR ⟨s'.2.2.2.2.1,s'.2.2.2.2.2⟩∧J ⟨s'.2.2.2.2.1,s'.2.2.2.2.2⟩)∧(s'.2.2.2.2.1.length:Int)≤s'.1∧(s'.1=0→s'.2.2.2.2.1=[]∧s'.2.2.2.2.2=[])∧(0 < s'.1→0 < s'.2.2.2.2.1.length))∧(n - s'.1).toNat < (n - v).toNat:=fun cc ls hcc hls hlen hv0=>by
    unfold zB8
    by_cases q6:ls.length > 30
    ·rw [ifT (decide_eq_true (by omega))]
     have ec:cutH ls 30=some (ls.take 30):=by
      unfold cutH
      rw [if_neg (by decide),if_pos (by show 30≤ls.length; omega)]
      rfl
     rw [ec,Option.bind_some]
     exact fin cc (ls.take 30) hcc (fun x hx=>hls x (List.mem_of_mem_take hx)) (by rw [List.length_take]; omega) (fun _=>by rw [List.length_take]; omega)
    ·rw [ifF (decide_eq_false (by omega))]
     exact fin cc ls hcc hls (by omega) (fun z=>by have:=hv0 z; omega)
   by_cases q7:v=0
   ·rw [ifT (b:=(v == 0)) (by simpa using q7),Option.bind_some]
    simp only [if_true]
    obtain ⟨ls,c3,m1,m2,m3,m4⟩:=l03Lines_ok hb (c:=⟨c2.b,c2.i,c2.h⟩) n4 (n:=9) (by omega) (by omega)
    rw [m1,Option.bind_some]
    exact j2 c3 ls m4 m3 (by omega) (fun _=>by omega)
   ·rw [ifF (b:=(v == 0)) (by simpa using q7)]
    obtain ⟨x,c3,o1,o2⟩:=qI9 hb (c:=⟨c2.b,c2.i,c2.h⟩) n4 (n:=12) (by omega)
    rw [o1,Option.bind_some,Option.bind_some]
    cases x with
    | true =>
     simp only [if_true]
     obtain ⟨ls,c4,m1,m2,m3,m4⟩:=l03Lines_ok hb (c:=⟨c3.b,c3.i,c3.h⟩) o2 (n:=9) (by omega) (by omega)
     rw [m1,Option.bind_some]
     exact j2 c4 ls m4 m3 (by omega) (fun z=>absurd z q7)
    | false =>
     simp only [Bool.false_eq_true,if_false]
     exact j2 c3 near o2 n3 (by omega) (fun z=>absurd z q7)
  ·right
   rw [ifF (decide_eq_false q)]
   exact ⟨_,rfl,i2,⟨i3,iJ⟩,by simp only; omega,fun z=>i6 (by omega)⟩)
 rw [e1,Option.bind_some]
 exact ⟨_,_,rfl,e2.2.1,e2.2.2.2,e2.2.2.1,e2.1⟩
theorem drawPair_okJ {J:T_impl_Weave→Prop} (hJ0:J w0) (hJ:∀ w p ls,WR w→J w→p.length≤4→(∀ x ∈ ls,qK x=true)→ls.length≤30→(xB w p ls).2.2=0→J (xB w p ls).1) {b:List Int} (hb:b.length≤1000000000):∃ w x y,zI8 b=some (w,x,y)∧WR w∧J w∧w.Parents.length≤13∧0 < w.Parents.length∧(0≤x∧x < w.Parents.length)∧0≤y∧y < w.Parents.length:=by
 unfold zI8
 obtain ⟨c,h1,h2⟩:=l01New_ok hb
 obtain ⟨n,s1,s2,s3⟩:=l06Size_ok hb
 rw [h1,Option.bind_some,s1,Option.bind_some]
 obtain ⟨x,c1,e1,g0,g1,_,g3⟩:=zL5 hb (c:=⟨c.b,c.i,c.h⟩) h2 (n:=n) (by omega)
 rw [e1,Option.bind_some]
 have hx:x≤11:=by
  by_cases q:0 < n
  ·have:=g1 q
   omega
  ·rename_i hz
   have:=hz (by omega)
   omega
 rw [zQ (x:=2+x) (by omega) (by omega)]
 obtain ⟨w,c2,r1,r2,r3,r4,r5⟩:=l06Right_okJ hJ0 hJ hb (c:=⟨c1.b,c1.i,c1.h⟩) g3 (n:=2+x) (by omega) (by omega)
 have hpos:=r3 (by omega)
 rw [r1,Option.bind_some]
 obtain ⟨y,c3,f1,k0,k1,_,k3⟩:=zL5 hb (c:=⟨c2.b,c2.i,c2.h⟩) r5 (n:=(w.Parents.length:Int)) (by omega)
 rw [f1,Option.bind_some]
 obtain ⟨z,c4,f2,m0,m1,_,m3⟩:=zL5 hb (c:=⟨c3.b,c3.i,c3.h⟩) k3 (n:=(w.Parents.length:Int)) (by omega)
 rw [f2,Option.bind_some]
 exact ⟨w,y,z,rfl,r2.1,r2.2,by omega,hpos,⟨k0,k1 (by omega)⟩,m0,m1 (by omega)⟩
def zE6 (bs:List T_impl_Body):Nat:=kQ (fun b=>b.Dels.length) bs
theorem dSum_app (a b:List T_impl_Body):zE6 (a++b)=zE6 a+zE6 b:=by
 induction a with
 | nil=>simp [zE6,kQ]
 | cons x a ih =>
  unfold zE6 at ih ⊢
  simp only [List.cons_append,kQ]
  omega
theorem dSum_newB (v:Int):∀ (ord:Int) (l:List ByteArray),zE6 (wO v ord l)=0
 | _,[]=>rfl
 | ord,x :: l=>by
  have:=dSum_newB v (ord+1) l
  unfold zE6 at this ⊢
  simp only [wO,kQ,List.length_nil]
  omega
theorem dSum_weaveT (v:Int) (S:Nat):∀ (hs:List (List ByteArray)) (ord:Int) (bs:List T_impl_Body) (ss:List Bool),zE6 (jM v S ord hs bs ss)≤zE6 bs+bs.countP (zV S)
 | [],_,_,_=>by simp [jM,zE6,kQ]
 | _ :: _,_,[],_=>by simp [jM,zE6,kQ]
 | _ :: _,_,_ :: _,[]=>by simp [jM,zE6,kQ]
 | h :: hs,ord,b :: bs,s :: ss=>by
  have ih:=dSum_weaveT v S hs (ord+h.length) bs ss
  have h1:=dSum_newB v ord h
  have h2:=dSum_app (wO v ord h) (jM v S (ord+h.length) hs bs ss)
  have hu:(updB v S s b).Dels.length≤b.Dels.length+(if zV S b=true then 1 else 0):=by
   unfold updB
   simp only
   cases hl:zV S b with
   | true=>cases s <;> simp
   | false=>simp
  have e1:zE6 (jM v S ord (h :: hs) (b :: bs) (s :: ss))=(updB v S s b).Dels.length+zE6 (wO v ord h++jM v S (ord+h.length) hs bs ss):=rfl
  have e2:zE6 (b :: bs)=b.Dels.length+zE6 bs:=rfl
  rw [List.countP_cons]
  omega
theorem goR_len:∀ (bs:List T_impl_Body) (i:Int) (d:List Int),(goR i d bs).length≤d.length+2 * zE6 bs+3 * bs.length+2
 | [],i,d=>by
  have:=mk4_len i d (-1) []
  unfold goR
  simp only [List.length_nil] at this
  omega
 | b :: bs,i,d=>by
  have h1:=mk4_len i d b.Ins b.Dels
  have ih:=goR_len bs b.Ins b.Dels
  have e2:zE6 (b :: bs)=b.Dels.length+zE6 bs:=rfl
  rw [qQ7,List.length_append,List.length_cons,List.length_cons]
  omega
theorem live_orL {g:List (List Int)} {p:List Int} {b:T_impl_Body} (h:zV (jK g p) b=true):∃ x ∈ p,zV (clo g x.toNat) b=true:=by
 unfold zV at h
 simp only [Bool.and_eq_true,List.all_eq_true] at h
 obtain ⟨⟨h1,h2⟩,h3⟩:=h
 rw [qK1,List.any_eq_true] at h2
 obtain ⟨x,hx,hb⟩:=h2
 refine ⟨x,hx,?_⟩
 unfold zV
 simp only [Bool.and_eq_true,List.all_eq_true]
 refine ⟨⟨h1,hb⟩,fun d hd=>?_⟩
 have:=h3 d hd
 unfold outB at this ⊢
 simp only [Bool.not_eq_true',Bool.and_eq_false_iff] at this ⊢
 rcases this with q | q
 ·exact .inl q
 ·right
  cases z:(clo g x.toNat).testBit d.toNat with
  | false=>rfl
  | true =>
   rw [qK1] at q
   have:=List.any_eq_false.1 q x hx
   exact absurd z this
theorem count_orL {g:List (List Int)} {M:Nat} {bs:List T_impl_Body}:∀ (p:List Int),(∀ x ∈ p,bs.countP (zV (clo g x.toNat))≤M)→bs.countP (fun b=>p.any fun x=>zV (clo g x.toNat) b)≤p.length * M
 | [],_=>by simp
 | x :: p,h=>by
  have ih:=count_orL p (fun y hy=>h y (by simp [hy]))
  have hx:=h x (by simp)
  have:bs.countP (fun b=>(x :: p).any fun x=>zV (clo g x.toNat) b)≤bs.countP (zV (clo g x.toNat))+bs.countP (fun b=>p.any fun x=>zV (clo g x.toNat) b):=by
   clear ih hx h
   induction bs with
   | nil=>simp
   | cons b bs ihb =>
    simp only [List.countP_cons,List.any_cons]
    cases zV (clo g x.toNat) b <;> cases (p.any fun x=>zV (clo g x.toNat) b) <;> simp <;> simp only [List.any_cons] at ihb <;> omega
  rw [List.length_cons,Nat.add_mul,Nat.one_mul]
  omega
def Few (w:T_impl_Weave):Prop:=(∀ v:Nat,v < w.Parents.length→(places (clo w.Parents v) w).length≤30)∧zE6 w.Bodies≤120 * (w.Parents.length - 1)
theorem few_0:Few w0:=⟨fun v hv=>by simp [w0] at hv,by simp [w0,zE6,kQ]⟩
theorem few_add {w:T_impl_Weave} {p:List Int} {lines:List ByteArray} (h:WR w) (hf:Few w) (hp4:p.length≤4) (h30:lines.length≤30) (h0:(xB w p lines).2.2=0):Few (xB w p lines).1:=by
 unfold xB at h0 ⊢
 split at h0
 case isFalse=>cases h0
 rename_i q1
 rw [if_pos q1]
 split at h0
 case isFalse=>cases h0
 rename_i q2
 rw [if_pos q2]
 split at h0
 case isTrue=>cases h0
 rename_i q3
 rw [if_neg q3]
 unfold addR at h0 ⊢
 simp only at h0 ⊢
 split at h0
 case isTrue=>cases h0
 rename_i q4
 rw [if_neg q4]
 simp only [Bool.and_eq_true,decide_eq_true_eq,List.all_eq_true] at q1 q2
 obtain ⟨a1,a3⟩:=qQ1 h (p:=p) q2.1 q2.2
 obtain ⟨_,l2⟩:=add_l4 (nb:=w.Bodies.length) a3 (zD3 _ w) h.n (by omega)
 have hcn:=l2.cn
 have hbl:=l2.bl
 have hsl:=l2.sl
 generalize (zI0 (places (jK w.Parents p) w) w.Bodies.length ((zM3 w p lines).zip lines)).2.1=bh at *
 generalize (zI0 (places (jK w.Parents p) w) w.Bodies.length ((zM3 w p lines).zip lines)).2.2=st at *
 have hg:=h.g
 have hgl:=jH hg
 have hg':=gOk_app hg q3 q1.1 q1.2
 obtain ⟨f1,f2⟩:=hf
 cases bh with
 | nil=>simp at hbl
 | cons y hs =>
  have hlen:hs.length=w.Bodies.length:=by simpa using hbl
  have hcount:∀ s:Nat,(places s (addW w p (y :: hs) st)).length=(wO w.Parents.length 0 y).countP (zV s)+(jM w.Parents.length (jK w.Parents p) y.length hs w.Bodies st).countP (zV s):=fun s=>by
   unfold places
   rw [zP6]
   show (zB3 _ _ (y :: hs) w.Bodies st).countP _=_
   unfold zB3
   rw [List.countP_append]
  have hpl:(addW w p (y :: hs) st).Parents=w.Parents++[p]:=rfl
  refine ⟨fun v hv=>?_,?_⟩
  ·rw [hpl,List.length_append,List.length_singleton] at hv
   rw [hpl,hcount]
   by_cases q:v < w.Parents.length
   ·have hbit:(clo w.Parents v).testBit w.Parents.length=false:=by
     cases z:(clo w.Parents v).testBit w.Parents.length with
     | false=>rfl
     | true =>
      have:=clo_le hg q z
      omega
    rw [clo_app hg hg' v q,qP5 hbit,qQ5 hbit hs _ w.Bodies st hlen hsl]
    have:=f1 v q
    unfold places at this
    rw [zP6] at this
    omega
   ·have:v=w.Parents.length:=by omega
    subst this
    have h1:=cnt_own (S:=jK w.Parents p) (c:=clo (w.Parents++[p]) w.Parents.length) (n:=w.Parents.length) (fun u=>clo_new hg hg' q1.2 u) (by omega) (g:=w.Parents) rfl hs (y.length) w.Bodies st (fun b hb=>zW7 h.o b hb)
    have h2:(wO w.Parents.length 0 y).countP (zV (clo (w.Parents++[p]) w.Parents.length))≤y.length:=by
     have:=List.countP_le_length (p:=zV (clo (w.Parents++[p]) w.Parents.length)) (l:=wO w.Parents.length 0 y)
     rwa [zU0] at this
    have e:uT (y :: hs)=y.length+uT hs:=rfl
    omega
  ·show zE6 (addW w p (y :: hs) st).Bodies≤120 * ((addW w p (y :: hs) st).Parents.length - 1)
   rw [hpl,List.length_append,List.length_singleton]
   have e1:zE6 (addW w p (y :: hs) st).Bodies=zE6 (wO w.Parents.length 0 y++jM w.Parents.length (jK w.Parents p) y.length hs w.Bodies st):=rfl
   rw [dSum_app,dSum_newB] at e1
   have e2:=dSum_weaveT w.Parents.length (jK w.Parents p) hs y.length w.Bodies st
   have e3:w.Bodies.countP (zV (jK w.Parents p))≤p.length * 30:=by
    refine Nat.le_trans (List.countP_mono_left (fun b _ hb=>?_)) (count_orL (g:=w.Parents) (M:=30) p (fun x hx=>?_))
    ·obtain ⟨x,hx,hl⟩:=live_orL hb
     exact List.any_eq_true.2 ⟨x,hx,hl⟩
    ·have:=wX q1.2 hx
     have:=f1 x.toNat (by omega)
     unfold places at this
     rwa [zP6] at this
   have e4:w.Parents.length=0→p.length=0:=fun z=>by
    have:=qP7 (n:=w.Parents.length) q1.2
    omega
   omega
theorem drawPair_few {b:List Int} (hb:b.length≤1000000000):∃ w x y,zI8 b=some (w,x,y)∧WR w∧(xF w).length≤3800∧w.Parents.length≤13∧0 < w.Parents.length∧(0≤x∧x < w.Parents.length)∧0≤y∧y < w.Parents.length:=by
 obtain ⟨w,x,y,h1,h2,h3,h4,h5⟩:=drawPair_okJ (J:=Few) few_0 (fun w p ls hw hf hp hl h30 h0=>few_add hw hf hp h30 h0) hb
 refine ⟨w,x,y,h1,h2,?_,h4,h5⟩
 have:=goR_len w.Bodies (-1) []
 have:=h3.2
 have:=h2.n
 unfold xF
 simp only [List.length_nil] at *
 omega
end Go.TV.F
namespace Go.TV.F
open Go.TV
theorem copyGraphI {g:List (List Int)} (hl:g.length≤1000000) (hx:∀ p ∈ g,p.length≤1000000):zM7 g=some g:=by
 unfold zM7
 rw [map_loop (body:=fun (s':Int×(List (List Int)))=>zA4 g s'.1 s'.2) g id id (by omega) (fun k x out hk hkl ho=>by
  simp only [zA4,zA2]
  have:=hx x (List.mem_of_getElem? hk)
  rw [ifT (by simpa using hkl),zD,hk,Option.bind_some,zJ (by simp; omega),Option.bind_some,zJ (by simp; omega),Option.bind_some,wkS k (by omega)]
  rfl) (fun out=>by
  simp only [zA4]
  rw [ifF (by simp)]
  rfl)]
 simp [zM4]
end Go.TV.F
