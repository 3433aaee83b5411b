/- Memory told as trees, part 5. -/
import Derived.Test.YthfhiepgdeghpaaDoorKFnExactShowToldT4
import Derived.WalkKit
import Derived.ProofKit
import Derived.Lib.UnsafeStr
import Derived.Lib.Walk
import Derived.Shelf.RegionOpenPlain
import Derived.Lib.IndexMore
import Derived.Lib.LaidTab
import Derived.Lib.ItoaNum
import Derived.Sort.Grow
import Derived.Deep.Draws
set_option linter.unusedVariables false
set_option linter.unusedSimpArgs false
set_option maxHeartbeats 8000000
set_option maxRecDepth 100000
/- TV, part Gc: a strings.Builder, told as its bytes. -/
namespace Go.TV
theorem ownsRow_base {w : World} {B B' : Nat} {e : TypeId} {n k : Nat} {v : Value} {xs : List Value} (h : w.ownsRow B e k v n xs) (hB : B' ≤ B) : w.ownsRow B' e k v n xs := by
  refine ⟨h.1, ?_⟩
  rcases h.2 with h | ⟨g, cap, cur, h1, h2, h3⟩
  · exact .inl h
  · exact .inr ⟨g, cap, cur, h1, Nat.le_trans hB h2, h3⟩
theorem append_bld {P : Program} (w : World) (t u ty e : TypeId) (i : TypeInfo) (ht : P.underlying t = some (.slice e)) (hu : P.underlying u = some .string) (hi : P.info? e = some i) (hz : i.zero = some (.int .u8 0)) (hsize : i.size = 1) (hby : i.bytes = 1)
    (v : Value) (n : Nat) (xs : List Value) (hown : w.ownsRow 0 e 1 v n xs) (s : ByteArray) (hb : n + s.size ≤ 549755813888) :
    ∃ v' w', (Builtin.append_ #[t, u] ty #[v, .string s]).run P w = .ok v' w' ∧ w'.ownsRow 0 e 1 v' (n + s.size) (xs ++ Go.Lib.strCells s) ∧ w.grownBy w' v.ownBlock ∧ (∀ g, v'.ownBlock = some g → v.ownBlock = some g ∨ w.heap.size ≤ g) ∧ (v = .slice none 0 0 → s.size = 0 → v' = .slice none 0 0) := by
  have h63 : n + s.size ≤ maxLen := by unfold maxLen; omega
  rcases hown.2 with ⟨rfl, rfl⟩ | ⟨g, cap, cur, rfl, hbg, hg, hnc, hcm, hcs, htake⟩
  · obtain ⟨v', w', h1, h2, h3, h4⟩ := Go.Lib.run_append_own_string (P := P) w w.heap.size t u ty e i ht hu hi hz hsize hby (.slice none 0 0) 0 xs ⟨hown.1, .inl ⟨rfl, rfl⟩⟩ s h63 (by omega) (Nat.le_refl _)
    exact ⟨v', w', h1, ownsRow_base h2 (Nat.zero_le _), h3, fun g hg => .inr (h2.lt g hg).1, fun a b => h4.2 ⟨a, b⟩⟩
  · obtain ⟨v', w', h1, h2, h3, h4⟩ := Go.Lib.run_append_own_string (P := P) w 0 t u ty e i ht hu hi hz hsize hby _ n xs hown s h63 (by omega) (Nat.zero_le _)
    refine ⟨v', w', h1, h2, h3, fun g' hg' => ?_, fun a b => h4.2 ⟨a, b⟩⟩
    have hxl : xs.length = n := by simpa using hown.1
    by_cases hroom : n + s.size ≤ cap
    · have hcs' : cur.size = cap := by simpa using hcs
      have hr := Go.Lib.run_append_room_string (P := P) w t u ty e i ht hu hi hsize g n cap cur hg s hroom (by omega)
      rw [hr] at h1
      injection h1 with h1 _
      subst h1
      exact .inl hg'
    · have holds : ∀ j u, xs[j]? = some u → w.cell? ((⟨g, 0, none⟩ : Addr).add j) = some u := hown.cells (g := g) rfl
      have hr := Go.Lib.run_append_grow_string (P := P) w t u ty e i (.int .u8 0) ht hu hi hz ⟨g, 0, none⟩ n cap xs (by rw [hsize]; simpa using hxl) holds s (by omega) (by omega) (by rw [hby]; exact growslice_fits (by omega) (by omega))
      rw [hr] at h1
      injection h1 with h1 _
      subst h1
      simp only [Value.ownBlock, Option.some.injEq] at hg'
      exact .inr (by omega)
def Held (p : Prop) : Prop := p
/-- An operation with a known answer. -/
theorem wpList_app2 {P : Program} {ops : Array Oper} {rest : List Oper} {o : Oper} {a : Act} {w w' : World} {v v' xv : Value} {Q : Exit → Act → World → Prop} (hgd : o.guard = none) (sl x : Operand) (t u : TypeId)
    (ho : o.op = .call { callee := .builtin .append, args := #[sl, x], argTypes := #[t, u] }) (hs : a.eval sl = v) (hx : a.eval x = xv) (hr : (Builtin.append_ #[t, u] o.type #[v, xv]).run P w = .ok v' w')
    (h : ∀ v'' w'', Held (v'' = v' ∧ w'' = w') → wpList P ops Q rest (a.put o.dst v'') w'') : wpList P ops Q (o :: rest) a w := by
  refine wpList_plain hgd fun K hK => ?_
  unfold Oper.wp execOp
  simp only [ho, resolve, invoke, builtin, Sem.run_bind, Sem.run_pure, Result.andThen_ok, List.map_toArray, List.map_cons, List.map_nil, hs, hx, hr]
  exact hK _ _ (h _ _ ⟨rfl, rfl⟩)
theorem strCells_app (s x : ByteArray) : Go.Lib.strCells (s ++ x) = Go.Lib.strCells s ++ Go.Lib.strCells x := by
  unfold Go.Lib.strCells
  rw [ByteArray.data_append]
  simp
theorem frm_of {w w' : World} {S : CS} (h1 : w'.os = w.os) (h2 : w'.tape = w.tape) (h3 : w'.output = w.output) (h4 : w.heap.size ≤ w'.heap.size) (h5 : ∀ k, k < w.heap.size → (∃ o, ¬ S k o) → w'.heap[k]? = w.heap[k]?) : Frm w w' S where
  os := h1
  tape := h2
  output := h3
  size := h4
  blk := fun k hk hn => h5 k hk ⟨0, hn 0⟩
  cel := fun b o hb hn => by
    have h := h5 b hb ⟨o, hn⟩
    exact ⟨World.cell?_of_block (w := w) (a := ad b o) h, World.frozen?_of_block (w := w) (a := ad b o) h, by unfold metaB; rw [h]⟩
theorem Fn_bldWrite {X : Cfg} {f t e : Nat} {s x : ByteArray} (hex : ∃ fn, X.P.funcs[f]? = some fn ∧ fn.body.isSome = true ∧ (fn.name == "runtime.NumGoroutine") = false)
    (hc : ∀ (b : Nat) (p v : Value) (w : World), w.heap[b]? = some (.cells #[p, v] t (0, 0)) → (p = .pointer none ∨ p = .pointer (some ⟨b, 0, none⟩)) → w.ownsRow 0 e 1 v s.size (Go.Lib.strCells s) → v.ownBlock ≠ some b →
      Calls X.P f #[.pointer (some ⟨b, 0, none⟩), .string x] w fun en w' => en = .returned (.tuple #[.int .i64 x.size, .nilIface]) ∧ ∃ v', w'.heap[b]? = some (.cells #[.pointer (some ⟨b, 0, none⟩), v'] t (0, 0)) ∧ w'.ownsRow 0 e 1 v' (s.size + x.size) (Go.Lib.strCells s ++ Go.Lib.strCells x) ∧ v'.ownBlock ≠ some b ∧
        w'.os = w.os ∧ w'.tape = w.tape ∧ w'.output = w.output ∧ w.heap.size ≤ w'.heap.size ∧ (∀ k, k < w.heap.size → k ≠ b → v.ownBlock ≠ some k → w'.heap[k]? = w.heap[k]?) ∧ (∀ g, v'.ownBlock = some g → v.ownBlock = some g ∨ w.heap.size ≤ g) ∧ (v = .slice none 0 0 → x.size = 0 → v' = .slice none 0 0)) :
    Fn X f [.one (.bld t e s), .one (.sc (.string x))] [.one (.sc (.int .i64 (x.size : Int))), .one (.sc .nilIface)] [(0, .bld t e (s ++ x))] := by
  refine ⟨hex, fun w D S us fl ha hr hj hD _ => ?_⟩
  obtain ⟨u0, us1, fl1, rfl, rfl, u1, us2, fl2, rfl, rfl, rfl, rfl⟩ := ha
  obtain ⟨y0, S0, S1, hy0, hb, ⟨y1, S2, S3, hy1, hx, hS3, hd1, rfl⟩, hd0, rfl⟩ := hr
  simp only [List.getElem?_cons_zero, Option.some.injEq] at hy0
  simp only [Nat.zero_add, List.getElem?_cons_succ, List.getElem?_cons_zero, Option.some.injEq] at hy1
  subst hy0 hy1
  obtain ⟨rfl, _, rfl⟩ := hx
  obtain rfl : S3 = emp := hS3
  obtain ⟨b, p, v, rfl, h2, h3, h4, h5, h9, rfl⟩ := hb
  refine (hc b p v w h2 h3 h4 h5).mono ?_
  rintro en w' ⟨rfl, v', g1, g2, g3, o1, o2, o3, o4, o5, o6, o7⟩
  have hbl : b < w.heap.size := heap_lt h2
  have hsub : ∀ y o, (y = b ∨ v'.ownBlock = some y) → (cup (fun x (_ : Nat) => x = b ∨ v.ownBlock = some x) (cup emp emp)) y o ∨ w.heap.size ≤ y := by
    rintro y o (rfl | h)
    · exact .inl (.inl (.inl rfl))
    · rcases o6 y h with h | h
      · exact .inl (.inl (.inr h))
      · exact .inr h
  refine ⟨_, [.int .i64 x.size, .nilIface], D, emp, fun y _ => y = b ∨ v'.ownBlock = some y, rfl, ⟨_, rfl, _, _, _, rfl, rfl, _, _, _, rfl, rfl, rfl, rfl⟩, ?_, ?_, emp_dj _, ?_, ?_, ?_, sub_refl D, fun _ _ h => .inl h, fun y o h => Nat.lt_of_lt_of_le (hD y o h) o4⟩
  · exact ⟨_, emp, emp, rfl, ⟨rfl, rfl, rfl⟩, ⟨_, emp, emp, rfl, ⟨rfl, rfl, rfl⟩, rfl, emp_dj _, (cup_emp emp).symm⟩, emp_dj _, (cup_emp emp).symm⟩
  · refine ⟨_, emp, rfl, ⟨b, _, v', rfl, g1, .inr rfl, ?_, g3, fun hz => ?_, rfl⟩, rfl, dj_emp _, (cup_emp _).symm⟩
    · rw [ByteArray.size_append, strCells_app]
      exact g2
    · rw [ByteArray.size_append] at hz
      exact o7 (h9 (by omega)) (by omega)
  · rw [emp_cup]
    intro y o q1 q2
    rcases hsub y o q1 with h | h
    · exact hj y o h q2
    · have := hD y o q2
      omega
  · refine frm_of o1 o2 o3 o4 (fun k hk ⟨o, hn⟩ => o5 k hk (fun q => hn (.inl (.inl q))) (fun q => hn (.inl (.inr q))))
  · intro y o q
    rw [emp_cup] at q
    exact hsub y o q
theorem Fn_bldString {X : Cfg} {f t e : Nat} {s : ByteArray} (hex : ∃ fn, X.P.funcs[f]? = some fn ∧ fn.body.isSome = true ∧ (fn.name == "runtime.NumGoroutine") = false)
    (hc : ∀ (b : Nat) (p v : Value) (w : World), w.heap[b]? = some (.cells #[p, v] t (0, 0)) → w.ownsRow 0 e 1 v s.size (Go.Lib.strCells s) → v.ownBlock ≠ some b → (s.size = 0 → v = .slice none 0 0) →
      Calls X.P f #[.pointer (some ⟨b, 0, none⟩)] w fun en w' => en = .returned (.string s) ∧ w'.os = w.os ∧ w'.tape = w.tape ∧ w'.output = w.output ∧ w.heap.size ≤ w'.heap.size ∧ (∀ k, k < w.heap.size → k ≠ b → v.ownBlock ≠ some k → w'.heap[k]? = w.heap[k]?)) :
    Fn X f [.one (.bld t e s)] [.one (.sc (.string s))] [] := by
  refine ⟨hex, fun w D S us fl ha hr hj hD _ => ?_⟩
  obtain ⟨u0, us1, fl1, rfl, rfl, rfl, rfl⟩ := ha
  obtain ⟨y0, S0, S1, hy0, hb, hS1, hd0, rfl⟩ := hr
  simp only [List.getElem?_cons_zero, Option.some.injEq] at hy0
  subst hy0
  obtain rfl : S1 = emp := hS1
  obtain ⟨b, p, v, rfl, h2, h3, h4, h5, h9, rfl⟩ := hb
  refine (hc b p v w h2 h4 h5 h9).mono ?_
  rintro en w' ⟨rfl, o1, o2, o3, o4, o5⟩
  refine ⟨_, [.string s], D, emp, emp, rfl, ⟨_, _, _, rfl, rfl, rfl, rfl⟩, ?_, rfl, emp_dj _, ?_, ?_, ?_, sub_refl D, fun _ _ h => .inl h, fun y o h => Nat.lt_of_lt_of_le (hD y o h) o4⟩
  · exact ⟨_, emp, emp, rfl, ⟨rfl, rfl, rfl⟩, rfl, emp_dj _, (cup_emp emp).symm⟩
  · rw [emp_cup]
    exact emp_dj _
  · refine frm_of o1 o2 o3 o4 (fun k hk ⟨o, hn⟩ => o5 k hk (fun q => hn (.inl (.inl q))) (fun q => hn (.inl (.inr q))))
  · intro y o q
    rw [emp_cup] at q
    exact q.elim
/-- A builder made. -/
def evBldN (T : Nat → Option TyI) (el : Nat) (o : Oper) (t : Nat) (e : Env) : Option Env :=
  (T t).bind fun d => match d.z with
    | [.sc (.pointer none), .list true 1 []] => if d.size = 2 then ({ e with nx := e.nx + 1, ob := (e.nx, .bld t el (ByteArray.mk #[])) :: e.ob } : Env).putO o.dst (.pl (.one (.ref e.nx []))) else none
    | _ => none
section
variable {gG : GG} {c : Ctx gG} {e e' : Env} {a : Act} {w : World} {D : CS} {hs : Nat → Value} {S : CS} {X : Cfg} {o : Oper}
theorem evBldN_ok (h : StD c e a w D hs S) {t el : Nat} (ho : o.op = .alloc t) (he : evBldN X.T el o t e = some e') : Did X.P c o a w e' := by
  obtain ⟨d, h1, h2⟩ := Option.bind_eq_some_iff.1 he
  have hd := X.hT _ _ h1
  obtain ⟨z, hz1, hz2⟩ := hd.zero (w := w)
  split at h2
  case h_2 => cases h2
  rename_i hdz
  split at h2
  case isFalse => cases h2
  have hz3 : (d.z.map zv).toArray = #[.pointer none, .slice none 0 0] := by rw [hdz]; rfl
  rw [hz3] at hz2
  have hf := frm_alloc w (.cells #[.pointer none, .slice none 0 0] t)
  have hw := h.world hf
  have hrep : Rep (w.alloc (.cells #[.pointer none, .slice none 0 0] t)) D (.bld t el (ByteArray.mk #[])) (.pointer (some (ad w.heap.size 0))) (fun x _ => x = w.heap.size ∨ (Value.slice none 0 0).ownBlock = some x) :=
    ⟨w.heap.size, .pointer none, .slice none 0 0, rfl, heap_alloc_new w _, .inl rfl, World.ownsRow_nil _ 0 el 1, by simp [Value.ownBlock], fun _ => rfl, rfl⟩
  have hS : ∀ x y : Nat, (x = w.heap.size ∨ (Value.slice none 0 0).ownBlock = some x) → x = w.heap.size := fun x y q => q.elim id (fun q => by simp [Value.ownBlock] at q)
  have g := hw.obj hrep (fun x y q1 q2 => by have := hS x y q1; have := h.ob.blt x y q2; omega) (fun x y q1 q2 => by have := hS x y q1; have := h.Dl x y q2; omega) (fun x y q => by have := hS x y q; have := h.fr.size; exact .inr (by omega))
  refine ⟨.pointer (some (ad w.heap.size 0)), _, .inl ?_, D, _, _, g.putO h2 (ref_new (by simp) rfl)⟩
  simp [execOp, ho, Instr.alloc, hz1, newVar, newRow, newObj, Sem.run, hz2, ad]
end
theorem opsV_bldN {X : Cfg} {Post : Exit → Env → Prop} {e e' : Env} {ops : Array Oper} {o : Oper} {l : List Oper} {t : Nat} {p : Prop} (hH : p) (el : Nat) (h : opsV X ops l Post e') (hg : o.guard = none := by rfl) (ho : o.op = .alloc t := by rfl)
    (he : p → evBldN X.T el o t e = some e' := by
      intro hH
      simp only [hH, evBldN, evMove, evAssign, evPick, evBin, evUn, evExtract, Env.sure, evNil, evFieldAddr, evLoad, Env.int, Env.node, evIndexAddr, evIndex, evField, Env.bound, Env.cut, evSlice, V.alive, Env.takes, evAlloc, Ag.cells, evBox, Env.newListO, evMake, over, Env.solid, Env.solidG, Env.parts, Ty.places, evBuild, Env.rowsOf, chunk, evBuildSlice, Env.rows, isU8B, evLen, evMinMax, V.isSc, C.killN, Ag.map, Sl.map, slMap, Env.place, Env.lay, evStore, C.killA, scR_nil, scR_cons, alR_nil, alR_cons, Env.src, Env.newAt, evAppend, Env.take, V.get, V.set, V.rowAt, V.setRow, Option.getD_some, List.set_cons_zero, List.set_cons_succ, set_get, List.set_set, cellOf, cellsOf, Env.behind, Env.val, Env.sc, Env.cl, lk, setO, delO, constS, constC, plain, Env.putO, Env.put, tyBool, binV, unV, rK, rB, rS, rL, wk_fold, bI_add, bI_sub, bI_mul, bI_quo, bI_rem, bI_and, bI_or, bI_xor, bI_andNot, bI_eql, bI_neq, bI_lss, bI_leq, bI_gtr, bI_geq, bI_shl, bI_shr, bS_add, bS_eql, bS_neq, bS_lss, bS_leq, bS_gtr, bS_geq, bytesOf_rK, bytesL_rK,
            ↓reduceIte, eq_self, Option.isSome_some, Option.isSome_none, Option.bind_some, Option.bind_none, Option.map_some, Option.map_none, Bool.false_eq_true, Nat.reduceLT, Nat.reduceLeDiff, Nat.reduceEqDiff, Nat.reduceAdd, Nat.reduceMul, Nat.reduceSub, Int.reduceLT, Int.reduceEq, Int.reduceNeg, List.length_map, List.length_cons, List.length_nil, List.length_append, List.getElem?_map, List.map_cons, List.map_nil, true_or, or_true, or_false, false_or, and_true, true_and, and_self, not_true, not_false_eq_true, reduceCtorEq, List.all_cons, List.all_nil, Bool.and_true, Bool.true_and, ne_eq, List.drop_zero, List.nil_append, List.append_nil, List.singleton_append, List.cons_append, List.flatMap_cons, List.flatMap_nil, List.flatten_cons, List.flatten_nil, List.mapM_cons, List.mapM_nil, Option.pure_def, Option.bind_eq_bind, List.take_zero, List.take_succ_cons, List.drop_succ_cons, List.getElem?_cons_zero, List.getElem?_cons_succ, List.set_cons_zero, List.set_cons_succ, List.headD_cons, List.take_nil, List.drop_nil, Nat.sub_zero, Nat.add_zero, Nat.zero_add, Nat.zero_le, Nat.le_refl, ← List.map_append, ← List.map_take, ← List.map_drop] <;> rfl) : opsV X ops (o :: l) Post e := opsV_op hg (fun _ _ _ ⟨D, hs, S, hd⟩ => evBldN_ok hd ho (he hH)) h
theorem litR_f {α : Type} (r : α → List V) {l : List α} {i : Int} {x : α} (h : geti l i = some x) : (l.map r)[i.toNat]? = some (r x) := by
  have := (geti_f h).2.2
  rw [List.getElem?_map, this]
  rfl
end Go.TV
/- TV, part Ge: functions of the library that are told by the library's own contracts. -/
namespace Go.TV
/-- The configuration of a program of which package-level variables hold what a list says. -/
def Cfg.ofG (P : Program) (h : P.follows .mixedOrders = true) (l : List (Nat × (Obj → Prop))) : Cfg := { Cfg.of P h with G := fun b => (l.find? fun x => x.1 == b).map fun x => x.2 }
theorem Cfg.ofG_mem {l : List (Nat × (Obj → Prop))} {b : Nat} {φ : Obj → Prop} (h : ((l.find? fun x => x.1 == b).map fun x => x.2) = some φ) : (b, φ) ∈ l := by
  cases q : l.find? fun x => x.1 == b with
  | none => rw [q] at h; cases h
  | some x =>
    rw [q] at h
    injection h with h
    have h1 := List.mem_of_find?_eq_some q
    have h2 := List.find?_some q
    have h2 : x.1 = b := by simpa using h2
    subst h2 h
    exact h1
/-- A variable that holds these numbers. -/
def isTab (k : IntKind) (zs : List Int) (x : Obj) : Prop := ∃ e n, x = .cells (zs.map fun z => Value.int k z).toArray e n
theorem isTab_var {P : Program} {w : World} {name : String} {b : Nat} {k : IntKind} {zs : List Int} (hg : P.globalNamed name = some b) {x : Obj} (h : w.heap[b]? = some x) (hx : isTab k zs x) : Go.Lib.TabIs P w name k zs := by
  obtain ⟨e, n, rfl⟩ := hx
  unfold Go.Lib.TabIs World.var?
  rw [hg]
  simp only [Option.bind_some, h]
theorem var_isTab {P : Program} {w : World} {name : String} {b : Nat} {k : IntKind} {zs : List Int} (hg : P.globalNamed name = some b) (h : Go.Lib.TabIs P w name k zs) : ∃ x, w.heap[b]? = some x ∧ isTab k zs x := by
  unfold Go.Lib.TabIs World.var? at h
  rw [hg] at h
  simp only [Option.bind_some] at h
  split at h
  · rename_i cs e n hq
    injection h with h
    subst h
    exact ⟨_, hq, e, n, rfl⟩
  · cases h
theorem same_of_heap {w w' : World} {b : Nat} (h : w'.heap[b]? = w.heap[b]?) (o : Nat) : same w w' b o := by
  constructor
  · simp only [World.cell?, ad, h]
  · simp only [h, World.frozen?, ad]
  · simp only [metaB, h]
/-- A function of a number that answers a text, and only makes and draws. -/
theorem Fn_intS {X : Cfg} {f : Nat} {n : Int} {t : ByteArray} (hex : ∃ fn, X.P.funcs[f]? = some fn ∧ fn.body.isSome = true ∧ (fn.name == "runtime.NumGoroutine") = false)
    (hc : ∀ w : World, (∀ g φ, X.G g = some φ → ∃ x, w.heap[g]? = some x ∧ φ x) → Calls X.P f #[.int .i64 n] w fun e w' => e = .returned (.string t) ∧ ∃ k os, w' = Go.Sort.grow (w.drewN k) os) :
    Fn X f [.one (.sc (.int .i64 n))] [.one (.sc (.string t))] [] := by
  refine ⟨hex, fun w D S us fl ha hr hj hD hg => ?_⟩
  obtain ⟨u0, us1, fl1, rfl, rfl, rfl, rfl⟩ := ha
  obtain ⟨y0, S0, S1, hy0, hx0, hS1, hd0, rfl⟩ := hr
  simp only [List.getElem?_cons_zero, Option.some.injEq] at hy0
  subst hy0
  obtain ⟨rfl, _, rfl⟩ := hx0
  obtain rfl : S1 = emp := hS1
  refine (hc w (fun g φ q => (hg g φ q).2.2.2)).mono ?_
  rintro en w' ⟨rfl, k, os, rfl⟩
  have hsz : (Go.Sort.grow (w.drewN k) os).heap.size = w.heap.size + os.size := by
    show (w.heap ++ os).size = _
    rw [Array.size_append]
  have hblk : ∀ b, b < w.heap.size → (Go.Sort.grow (w.drewN k) os).heap[b]? = w.heap[b]? := fun b hb => by
    show (w.heap ++ os)[b]? = _
    rw [Array.getElem?_append_left hb]
  refine ⟨_, [.string t], D, emp, emp, rfl, ⟨_, _, _, rfl, rfl, rfl, rfl⟩, ⟨_, emp, emp, rfl, ⟨rfl, rfl, rfl⟩, rfl, emp_dj _, (cup_emp emp).symm⟩, rfl, emp_dj _, ?_, ⟨rfl, rfl, rfl, by omega, fun b hb _ => hblk b hb, fun b o hb _ => same_of_heap (hblk b hb) o⟩, ?_, sub_refl D, fun _ _ h => .inl h, fun b o q => by have := hD b o q; omega⟩
  · rw [emp_cup]
    exact emp_dj _
  · intro y o q
    rw [emp_cup] at q
    exact q.elim
end Go.TV
