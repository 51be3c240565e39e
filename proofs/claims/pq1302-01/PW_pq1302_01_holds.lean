import PyProof.Rows.All
import Wide.All
import OpenK.AllK
import Wide.FinOn
import Lean
import PySem.Challenge.RW_pq1302_01
open PySem PySem.W PyProof.Rows PySem.Calls
set_option Elab.async false
set_option linter.all false
set_option maxRecDepth 100000
set_option maxHeartbeats 8000000
namespace Mine
theorem unit_a0_head : True := by
  w_top off
  trivial
open_top hd for PySem.Challenge.rw_pq1302_01
theorem unit_b0_base : True := by
  w_top off
  trivial
--@nofill
/-! ## the ground: what a call needs, what lies in a ledger -/
abbrev PP : Program := PySem.Challenge.rw_pq1302_01.row.prog
abbrev Led := List (Addr × Obj)

def Spec (w : World) (f : Addr) (vs : List Value) (r : Nat) (news : Led) (Out : Value → Led → Prop) : Prop :=
  ∀ (mean : ExcName → Option Value) (mg mb : Str → Option Value) (dp un : Nat) (gd : Option (List Code)) (cn : Str) (cs : Scope) (a : Addr) (ccd : Value) (cl : List (Str × Addr)) (outer : List Env) (A₀ : Around) (base h₀ : Heap) (L : Addr) (m : Str → Option Value) (s : Shared) (Q E : Value → Shared → Prop),
    Below A₀ base outer h₀ → Fr h₀ L s.heap m → (hd.heap_39 w.params).In h₀ → News h₀ L s.heap news →
    Top hd.view_39 (looseW hd.view_39 [Str.ofString "UniError"]) mean mg mb h₀ → cs.kind = .function → dp + r < recursionLimit → un + 16 * r < cLine →
    (∀ v nx h' tk', Out v nx → Fr h₀ L h' m → News h₀ L h' nx → Q v { s with heap := h', toks := tk' }) →
    wpAny (model PP w) (ktrTop dp un gd cn cs L a ccd cl outer) (call (.ref f) vs) Q E s

theorem Spec.use {w : World} {f : Addr} {vs : List Value} {r : Nat} {news : Led} {Out : Value → Led → Prop} {mean : ExcName → Option Value} {mg mb : Str → Option Value} {dp un : Nat} {gd : Option (List Code)} {cn : Str} {cs : Scope} {a : Addr} {ccd : Value} {cl : List (Str × Addr)} {outer : List Env} {A₀ : Around} {base h₀ : Heap} {L : Addr} {m : Str → Option Value} {s : Shared} {Q E : Value → Shared → Prop}
    (B : Below A₀ base outer h₀) (F : Fr h₀ L s.heap m) (X : (hd.heap_39 w.params).In h₀) (N : News h₀ L s.heap news)
    (T : Top hd.view_39 (looseW hd.view_39 [Str.ofString "UniError"]) mean mg mb h₀) (hk : cs.kind = .function) (S : Spec w f vs r news Out) (hd : dp + r < recursionLimit) (hu : un + 16 * r < cLine)
    (ret : ∀ v nx h' tk', Out v nx → Fr h₀ L h' m → News h₀ L h' nx → Q v { s with heap := h', toks := tk' }) :
    wpAny (model PP w) (ktrTop dp un gd cn cs L a ccd cl outer) (call (.ref f) vs) Q E s :=
  S mean mg mb dp un gd cn cs a ccd cl outer A₀ base h₀ L m s Q E B F X N T hk hd hu ret

/-- the walk halts here -/
def Hold (P : Prop) : Prop := P
theorem hold {P : Prop} (h : Hold P) : P := h
/-- a list of ints lies at l -/
def TL (news : Led) (l : Addr) (ns : List Int) : Prop := ∃ (vs : List Value) (n : Nat), (l, listOf vs.toArray n) ∈ news ∧ IntsAre vs ns
theorem TL.mono {news news' : Led} {l : Addr} {ns : List Int} (h : TL news l ns) (s : ∀ p ∈ news, p ∈ news') : TL news' l ns :=
  let ⟨vs, n, hm, hi⟩ := h; ⟨vs, n, s _ hm, hi⟩

section
variable {prog : Program} {w : World} {A : Around} {E : Value → Shared → Prop} {s : Shared} {h₀ : Heap} {L l : Addr} {cur : Led} {ns : List Int} {m : Str → Option Value}
theorem tl_len {Q : Value → Shared → Prop} (N : News h₀ L s.heap cur) (t : TL cur l ns) (hz : ns.length < 2 ^ 62) (h : Q (.int (ns.length : Int) (s.toks + 1)) { s with toks := s.toks + 1 + 1 }) :
    wpAny (model prog w) A (call (.builtin "len") [.ref l]) Q E s := by
  obtain ⟨vs, n, hm, hi⟩ := t
  exact kst_len N hm hi.length (by omega) h
theorem tl_item {value slice : PySem.Expr} {k : Int} {u : Tok} {Q : Value → Shared → Prop} (N : News h₀ L s.heap cur) (t : TL cur l ns) (h0 : 0 ≤ k) (h1 : k < (ns.length : Int)) (hz : ns.length < 2 ^ 62)
    (h : ∀ t, Q (.int (ns.getD k.toNat 0) t) s)
    (hs : subscripted slice false (.ref l) (.int k u) = operate [.ref l, .int k u] (getItem (.ref l) (.int k u)) := by with_unfolding_all rfl) :
    wpAny (model prog w) A (subscriptTail value slice (.ref l) (.int k u)) Q E s := by
  obtain ⟨vs, n, hm, hi⟩ := t
  have hl : s.heap.IsList l vs.toArray := ⟨_, (N _ hm).1, rfl, n, rfl⟩
  obtain ⟨t, hx⟩ := hi.get k.toNat (ns.getD k.toNat 0) (by
    have hlt : k.toNat < ns.length := by omega
    simp [List.getD, hlt])
  exact tail_any hl.typeIs slot_list_getitem.lookup (wpAny_getItem_list hl h0 (by omega) (by simpa using hx) (h t)) hs
end
theorem tl_ints {news : Led} {l : Addr} {ns : List Int} {h₀ h : Heap} {L : Addr} (N : News h₀ L h news) (t : TL news l ns) : ∃ vs : List Value, h.IsList l vs.toArray ∧ IntsAre vs ns :=
  let ⟨vs, n, hm, hi⟩ := t; ⟨vs, ⟨_, (N _ hm).1, rfl, n, rfl⟩, hi⟩
theorem tl_new {news : Led} {l : Addr} {vs : List Value} {n : Nat} {ns : List Int} (hi : IntsAre vs ns) : TL ((l, listOf vs.toArray n) :: news) l ns := ⟨vs, n, .head _, hi⟩
theorem ints_kf {k : Int} : ∀ {vs : List Value} {ns : List Int}, IntsAre vs ns → kf_ints vs = true ∧ (k ∈ ns → kf_at k vs = some (ns.idxOf k))
  | _, _, .nil => ⟨rfl, fun h => nomatch h⟩
  | _, _, .cons n t (vs := vs) (ns := ns) h => by
    have ih := ints_kf (k := k) h
    refine ⟨by simpa [kf_ints] using ih.1, fun hk => ?_⟩
    unfold kf_at
    by_cases e : n = k
    · subst e; simp [isInt]
    · have hk' : k ∈ ns := by
        rcases List.mem_cons.mp hk with h | h
        · exact absurd h.symm e
        · exact h
      have e2 : (n == k) = false := by simpa using e
      simp [isInt, e, ih.2 hk', List.idxOf_cons, e2]
section
variable {prog : Program} {w : World} {A : Around} {E : Value → Shared → Prop} {s : Shared} {h₀ : Heap} {L l : Addr} {cur : Led} {ns : List Int} {m : Str → Option Value}
theorem tl_last {value slice : PySem.Expr} {k : Int} {u : Tok} {Q : Value → Shared → Prop} (N : News h₀ L s.heap cur) (t : TL cur l ns) (h0 : k < 0) (h1 : -(ns.length : Int) ≤ k) (hz : ns.length < 2 ^ 62)
    (h : ∀ t, Q (.int (ns.getD (k + ns.length).toNat 0) t) s)
    (hs : subscripted slice false (.ref l) (.int k u) = operate [.ref l, .int k u] (getItem (.ref l) (.int k u)) := by with_unfolding_all rfl) :
    wpAny (model prog w) A (subscriptTail value slice (.ref l) (.int k u)) Q E s := by
  obtain ⟨vs, hl, hi⟩ := tl_ints N t
  exact item_list_ints_negR hl hi h0 h1 (by omega) h hs
theorem tl_in {k : Int} {t : Tok} {Q : Value → Shared → Prop} (N : News h₀ L s.heap cur) (tl : TL cur l ns) (h : Q (.bool (decide (k ∈ ns))) s) : wpAny (model prog w) A (compareOp .In (.int k t) (.ref l)) Q E s := by
  obtain ⟨vs, hl, hi⟩ := tl_ints N tl
  refine in_list_ints hl hi ?_
  have e : (ns.any (· == k)) = decide (k ∈ ns) := by
    by_cases hk : k ∈ ns
    · rw [decide_eq_true hk]; exact List.any_eq_true.mpr ⟨k, hk, by simp⟩
    · rw [decide_eq_false hk]; exact List.any_eq_false.mpr fun x hx => by
        intro e; exact hk ((beq_iff_eq.mp e) ▸ hx)
  rw [e]; exact h
theorem tl_index {k : Int} {t : Tok} {Q : Value → Shared → Prop} (N : News h₀ L s.heap cur) (tl : TL cur l ns) (hk : k ∈ ns) (hz : ns.length < 10000) (h : Q (.int (ns.idxOf k : Nat) s.toks) { s with toks := s.toks + 1 }) :
    wpAny (model prog w) A (call (.builtin "list.index") [.ref l, .int k t]) Q E s := by
  obtain ⟨vs, n, hm, hi⟩ := tl
  exact kf_index N hm (by simpa using (ints_kf (k := k) hi).1) (by simpa using (ints_kf hi).2 hk) rfl (by simp only [hi.length]; rw [sizeLine_eq]; omega) h
theorem tl_slice {value slice : PySem.Expr} {vl vu : Value} {lo hi : Option Int} {ms : List Int} {Q : Value → Shared → Prop} (F : Fr h₀ L s.heap m) (N : News h₀ L s.heap cur) (tl : TL cur l ns) (pl : IsPart vl lo) (pu : IsPart vu hi)
    (hm : ∀ vs : List Value, IntsAre vs ns → IntsAre (slicePick vs.toArray lo hi none).toList ms) (hz : ns.length < 10000)
    (h : ∀ D o h', Fr h₀ L h' m → News h₀ L h' ((D, o) :: cur) → (∀ p ∈ cur, p.1 < D) → TL ((D, o) :: cur) D ms → Q (.ref D) { s with heap := h' })
    (hs : subscripted slice false (.ref l) (.ref s.heap.objs.size) = operate [.ref s.heap.objs.size, .ref l] (getItem (.ref l) (.ref s.heap.objs.size))) (ht : ∀ r, letTemporaryGo value (.ref l) r = pure ()) :
    wpAny (model prog w) A (subscriptTail value slice (.ref l) (.ref s.heap.objs.size)) Q E { s with heap := s.heap.push { cls := .type "slice", data := .fields #[vl, vu, .none] } } := by
  obtain ⟨vs, hl, hi'⟩ := tl_ints N tl
  exact kmk_slice_ints (c := ms.length) F N hl pl pu hi' (hm vs hi') rfl (fun D ws h' F' N' lt hw _ _ => h D _ h' F' N' lt (tl_new hw)) hs ht (by rw [List.size_toArray, hi'.length, sizeLine_eq]; omega)
theorem tl_dat {xs : List Int} {vs : List Value} {news : Led} (hi : IntsAre vs xs) : DatAll news vs (xs.map Dat.int) := by
  induction hi with
  | nil => exact .nil
  | cons n t _ ih => exact .cons (.int n t) ih
theorem dat_int_inj {xs ys : List Int} : xs.map Dat.int = ys.map Dat.int ↔ xs = ys :=
  ⟨fun h => by
    induction xs generalizing ys with
    | nil => cases ys with
      | nil => rfl
      | cons y ys => cases h
    | cons x xs ih => cases ys with
      | nil => cases h
      | cons y ys =>
        simp only [List.map_cons, List.cons.injEq, Dat.int.injEq] at h
        rw [h.1, ih h.2], fun h => h ▸ rfl⟩
theorem tl_eq {a b : Addr} {xs ys : List Int} {Q : Value → Shared → Prop} (N : News h₀ L s.heap cur) (ta : TL cur a xs) (tb : TL cur b ys) (hu : A.units + 64 < cLine) (h : Q (.bool (decide (xs = ys))) s) :
    wpAny (model prog w) A (compareOp .Eq (.ref a) (.ref b)) Q E s := by
  obtain ⟨va, na, ma, ia⟩ := ta
  obtain ⟨vb, nb, mb, ib⟩ := tb
  refine kqd_eq N ma rfl rfl (tl_dat (news := cur) ia) (fun _ h => h) mb rfl rfl (tl_dat (news := cur) ib) (fun _ h => h) ?_ ?_ hu ?_
  · intro d hd; obtain ⟨x, _, rfl⟩ := List.mem_map.mp hd; rfl
  · intro d hd; obtain ⟨x, _, rfl⟩ := List.mem_map.mp hd; rfl
  · have key : ∀ d : Decidable (xs.map Dat.int = ys.map Dat.int), @decide _ d = decide (xs = ys) := fun d => decide_eq_decide.mpr dat_int_inj
    rw [key]; exact h
end
theorem unit_c1_lawzero : True := by
  w_top off
  trivial
/-! ## the walk's own lines; _law_zero -/
theorem unr_end1 {h₀ : Heap} {L : Addr} {s₁ : Shared} {I : Addr} {it : Obj} {news : Led} {rest : (Str → Option Value) → List (Addr × Obj) → Prop} {h' : Heap} {tk : Nat} {m' : Str → Option Value}
    (F : Fr h₀ L h' m') (N : News h₀ L h' ((I, it) :: news)) (hn : ∀ p ∈ news, p.1 < I) (r : rest m' news) : UnrEndW h₀ L s₁ [(I, it)] rest { s₁ with heap := h', toks := tk } :=
  ⟨h', tk, m', news, rfl, F, N, fun p hp q hq => by rw [List.mem_singleton.mp hq]; exact Nat.ne_of_lt (hn p hp), r⟩
--@M
local macro_rules | `(tactic| k_room) => `(tactic| ktr_room)
local macro_rules | `(tactic| ktr_rel) => `(tactic| first | assumption | exact TL.mono (by assumption) (by first | exact fun _ h => h | (intro p hp; kcf_m)) | exact ⟨_, _, List.Mem.head _, IntsAre.cons _ _ IntsAre.nil⟩ | exact ⟨_, _, List.Mem.head _, IntsAre.nil⟩)
local macro_rules | `(tactic| walk_at "call builtin:len cons nil") => `(tactic| (k_here; k_dflt (refine' tl_len ?N ?t ?z ?_; (case N => k_asm); (case t => ktr_rel); (case z => omega); k_whole)))
local macro_rules | `(tactic| walk_at "subscriptTail Name Name ref int") => `(tactic| (k_here; k_dflt (refine' tl_item ?N ?t ?a ?b ?z ?_ ?s; (case N => k_asm); (case t => ktr_rel); (case a => first | omega | (rw [Int.fdiv_eq_ediv_of_nonneg _ (by decide)]; omega)); (case b => first | omega | (rw [Int.fdiv_eq_ediv_of_nonneg _ (by decide)]; omega)); (case z => omega); (case s => with_unfolding_all rfl); k_whole); intro _))
local macro_rules | `(tactic| walk_at "subscriptTail Name BinOp ref int") => `(tactic| (k_here; k_dflt (refine' tl_item ?N ?t ?a ?b ?z ?_ ?s; (case N => k_asm); (case t => ktr_rel); (case a => omega); (case b => omega); (case z => omega); (case s => with_unfolding_all rfl); k_whole); intro _))
local macro_rules | `(tactic| walk_at "subscriptTail Name Constant ref int") => `(tactic| (k_here; k_dflt (refine' tl_item ?N ?t ?a ?b ?z ?_ ?s; (case N => k_asm); (case t => ktr_rel); (case a => omega); (case b => omega); (case z => omega); (case s => with_unfolding_all rfl); k_whole); intro _))
local macro_rules | `(tactic| walk_at "UnrEndW cons") => `(tactic| (refine unr_end1 (by assumption) (by assumption) (by assumption) ⟨trivial, ?_⟩))
local macro_rules | `(tactic| walk_at "exec While Compare cons nil") => `(tactic| (refine hold ?_))
local macro_rules | `(tactic| walk_at "exec While BoolOp cons nil") => `(tactic| (refine hold ?_))
local macro_rules | `(tactic| walk_at "KswEnd") => `(tactic| (refine hold ?_))
local macro_rules | `(tactic| walk_at "exec Raise some none") => `(tactic| (exfalso; first | omega | contradiction))
--@E
section
local macro_rules | `(tactic| walk_at "exec For Name Name cons nil") => `(tactic| (k_here; (rename Fr _ _ _ _ => lF'); (with_unfolding_all refine' For_turnsG lF' ?g ?_; (case g => exact rfl); k_whole)))
def zeroAt (ns : List Int) (i : Int) : Option Int :=
  if i < (ns.length : Int) then (if 48 ≤ ns.getD i.toNat 0 ∧ ns.getD i.toNat 0 < 58 then some 48 else if 1632 ≤ ns.getD i.toNat 0 ∧ ns.getD i.toNat 0 < 1642 then some 1632 else none) else none
theorem zeroAt_48 {ns : List Int} {i : Int} (h : i < (ns.length : Int)) (a : 48 ≤ ns.getD i.toNat 0) (b : ns.getD i.toNat 0 < 58) : zeroAt ns i = some 48 := by
  unfold zeroAt; rw [if_pos h, if_pos ⟨a, b⟩]
theorem zeroAt_1632 {ns : List Int} {i : Int} (h : i < (ns.length : Int)) (a : 1632 ≤ ns.getD i.toNat 0) (b : ns.getD i.toNat 0 < 1642) : zeroAt ns i = some 1632 := by
  unfold zeroAt; rw [if_pos h, if_neg (by omega), if_pos ⟨a, b⟩]
theorem zeroAt_none {ns : List Int} {i : Int} (h : i < (ns.length : Int) → ¬(48 ≤ ns.getD i.toNat 0 ∧ ns.getD i.toNat 0 < 58) ∧ ¬(1632 ≤ ns.getD i.toNat 0 ∧ ns.getD i.toNat 0 < 1642)) : zeroAt ns i = none := by
  unfold zeroAt
  by_cases hi : i < (ns.length : Int)
  · rw [if_pos hi, if_neg (h hi).1, if_neg (h hi).2]
  · rw [if_neg hi]
theorem law_zero_c (w : World) (news : Led) (l : Addr) (ns : List Int) (i : Int) (ti : Tok) (hl : TL news l ns) (hn : ns.length < 100) (h0 : 0 ≤ i) (h1 : i < 200) :
    Spec w 320 [.ref l, .int i ti] 1 news (fun v nx => nx = news ∧ match zeroAt ns i with | some z => ∃ t, v = .int z t | none => v = .none) := by
  intro mean mg mb dp un gd cn cs a ccd cl outer A₀ base h₀ L m s Q E B F X N T hk hd hu ret
  refine wpAny_call ?_
  k_dflt ktr_enter
  rename Fr _ _ _ _ => F0
  have F1 : Fr _ _ _ (fun y => List.lookup y [(Str.ofString "at", Value.int i ti), (Str.ofString "text", Value.ref l)]) := F0
  clear F0
  k_steps
  all_goals (refine ret _ _ _ _ ⟨rfl, ?_⟩ (by assumption) (by first | assumption | exact cb_drop (by assumption) (by first | exact fun _ h => h | (intro p hp; kcf_m))))
  all_goals first
    | (rw [zeroAt_48 (by omega) (by omega) (by omega)]; exact ⟨_, rfl⟩)
    | (rw [zeroAt_1632 (by omega) (by omega) (by omega)]; exact ⟨_, rfl⟩)
    | (rw [zeroAt_none (by omega)])
end
local macro_rules | `(tactic| walk_at "mine pad1") => `(tactic| skip)
local macro_rules | `(tactic| walk_at "mine pad2") => `(tactic| skip)
theorem unit_c2_place : True := by
  w_top off
  trivial
/-! ## place_by_half -/
/-- how many of the list are at most x -/
def cntLE (ns : List Int) (x : Int) : Nat := (ns.filter (fun y => decide (y ≤ x))).length
theorem cntLE_eq {ns : List Int} {x : Int} {k : Nat} (hk : k ≤ ns.length) (lo : ∀ j (h : j < ns.length), j < k → ns[j] ≤ x) (hi : ∀ j (h : j < ns.length), k ≤ j → x < ns[j]) : cntLE ns x = k := by
  unfold cntLE
  rw [← List.take_append_drop k ns, List.filter_append, List.length_append]
  have h1 : (ns.take k).filter (fun y => decide (y ≤ x)) = ns.take k := by
    rw [List.filter_eq_self]
    intro a ha
    obtain ⟨j, hj, rfl⟩ := List.mem_iff_getElem.mp ha
    rw [List.length_take] at hj
    rw [List.getElem_take]
    exact decide_eq_true (lo j (by omega) (by omega))
  have h2 : (ns.drop k).filter (fun y => decide (y ≤ x)) = [] := by
    rw [List.filter_eq_nil_iff]
    intro a ha
    obtain ⟨j, hj, rfl⟩ := List.mem_iff_getElem.mp ha
    rw [List.length_drop] at hj
    rw [List.getElem_drop]
    have := hi (k + j) (by omega) (by omega)
    simp only [decide_eq_true_eq]; omega
  rw [h1, h2, List.length_take]; simp; omega
theorem getD_at {ns : List Int} {i : Int} (j : Nat) (h : j < ns.length) (e : i.toNat = j) : ns.getD i.toNat 0 = ns[j] := by
  subst e; simp [List.getD, h]
theorem asc {ns : List Int} (hp : ns.Pairwise (· < ·)) {i j : Nat} (hj : j < ns.length) (h : i ≤ j) : ns[i]'(by omega) ≤ ns[j] := by
  rcases Nat.lt_or_eq_of_le h with h | h
  · exact Int.le_of_lt (List.pairwise_iff_getElem.mp hp i j (by omega) hj h)
  · subst h; exact Int.le_refl _

theorem place_c (w : World) (news : Led) (l : Addr) (ns : List Int) (x : Int) (tx : Tok) (hl : TL news l ns) (hn : ns.length < 1000) (hp : ns.Pairwise (· < ·)) :
    Spec w 61 [.ref l, .int x tx] 1 news (fun v nx => nx = news ∧ ∃ t, v = .int ((cntLE ns x : Nat) - 1 : Int) t) := by
  intro mean mg mb dp un gd cn cs a ccd cl outer A₀ base h₀ L m s Q E B F X N T hk hd hu ret
  refine wpAny_call ?_
  k_dflt ktr_enter
  rename Fr _ _ _ _ => F0
  have F1 : Fr _ _ _ (fun y => List.lookup y [(Str.ofString "number", Value.int x tx), (Str.ofString "firsts", Value.ref l)]) := F0
  clear F0
  k_steps
  unfold Hold
  rename Fr _ _ _ _ => lF'
  rename News _ _ _ _ => lN'
  k_dflt (refine ksw_while (σ := Int × Tok × Int × Tok) (fun _ => news) (fun c => [(Str.ofString "low", .int c.1 c.2.1), (Str.ofString "high", .int c.2.2.1 c.2.2.2)]) (fun _ => True) [Str.ofString "middle"] (fun c => 0 ≤ c.1 ∧ c.1 ≤ c.2.2.1 ∧ c.2.2.1 ≤ ns.length ∧ (∀ j (h : j < ns.length), (j : Int) < c.1 → ns[j] ≤ x) ∧ (∀ j (h : j < ns.length), c.2.2.1 ≤ (j : Int) → x < ns[j])) (fun c => (c.2.2.1 - c.1).toNat) (0, _, (ns.length : Int), _) lF' lN' trivial (List.forall_mem_cons.mpr ⟨rfl, List.forall_mem_cons.mpr ⟨rfl, List.forall_mem_nil _⟩⟩) ⟨by dsimp only; omega, by dsimp only; omega, by dsimp only; omega, fun j h q => by dsimp only at q; omega, fun j h q => by dsimp only at q; omega⟩ ?_)
  rintro ⟨lo, tlo, hi, thi⟩ u h tk - ⟨p1, p2, p3, p4, p5⟩ F' N'
  dsimp only at p1 p2 p3 p4 p5 F' ⊢
  simp only [kstB] at F'
  clear lF' lN'
  k_fold
  k_steps
  all_goals (try unfold Hold)
  · rename ns.getD _ 0 ≤ x => hle
    rename lo < hi => hlt
    have e := Int.fdiv_eq_ediv_of_nonneg (lo + hi) (show (0:Int) ≤ 2 by decide)
    refine ksw_end (_, _, _, _) (by assumption) (by assumption) (fun _ h => h) trivial (List.forall_mem_cons.mpr ⟨rfl, List.forall_mem_cons.mpr ⟨rfl, List.forall_mem_nil _⟩⟩) (by ksw_same) ?_ ?_
    · dsimp only
      rw [e] at hle ⊢
      refine ⟨by omega, by omega, by omega, fun j h q => ?_, p5⟩
      rw [getD_at ((lo + hi) / 2).toNat (by omega) rfl] at hle
      exact Int.le_trans (asc hp (by omega) (by omega)) hle
    · dsimp only; rw [e]; omega
  · rename ¬ ns.getD _ 0 ≤ x => hle
    rename lo < hi => hlt
    have e := Int.fdiv_eq_ediv_of_nonneg (lo + hi) (show (0:Int) ≤ 2 by decide)
    refine ksw_end (lo, _, (lo + hi).fdiv 2, _) (by assumption) (by assumption) (fun _ h => h) trivial (List.forall_mem_cons.mpr ⟨rfl, List.forall_mem_cons.mpr ⟨rfl, List.forall_mem_nil _⟩⟩) (by ksw_same) ?_ ?_
    · dsimp only
      rw [e] at hle ⊢
      refine ⟨by omega, by omega, by omega, p4, fun j h q => ?_⟩
      rw [getD_at ((lo + hi) / 2).toNat (by omega) rfl] at hle
      have q2 := asc hp h (show ((lo + hi) / 2).toNat ≤ j by omega)
      omega
    · dsimp only; rw [e]; omega
  · refine ret _ _ _ _ ⟨rfl, ?_⟩ (by assumption) (by assumption)
    have e : cntLE ns x = lo.toNat := cntLE_eq (by omega) (fun j h q => p4 j h (by omega)) (fun j h q => p5 j h (by omega))
    exact ⟨_, by rw [e, Int.toNat_of_nonneg p1]⟩
--@M
local macro_rules | `(tactic| ktr_room) => `(tactic| first | omega | (dsimp only [ktrTop]; omega) | fail "room")
local macro_rules | `(tactic| ktr_units) => `(tactic| first | omega | (dsimp only [ktrTop]; omega) | fail "units")
local macro_rules | `(tactic| walk_at "call ref cons nil") => `(tactic| (k_here; (with_reducible show wpAny _ _ (call (Value.ref 61) _ _) _ _ _); k_dflt (refine' Spec.use ?B ?F ?X ?N ?T ?K (place_c _ _ _ _ _ _ ?h1 ?h2 ?h3) ?d ?u ?_; (case B => k_asm); (case F => k_asm); (case X => k_asm); (case N => k_asm); (case T => k_asm); (case K => first | exact rfl | assumption); (case h1 => ktr_rel); (case h2 => omega); (case h3 => assumption); (case d => ktr_room); (case u => ktr_units); k_whole); (intro v' nx' h' tk' O' F' N'; (obtain ⟨e1, t', e2⟩ := O'); subst nx'; subst e2); (try k_sweep); (try dsimp only); (try k_fold)))
--@E
theorem unit_c3_data : True := by
  w_top off
  trivial
/-! ## the database: RangeMap.get, Data.get -/
def IsRM (news : Led) (x : Addr) (st : List Int) (vs : List Dat) : Prop :=
  ∃ (d ls lv : Addr) (n k : Nat) (h1 h2 h3 : Int) (t1 t2 t3 : Tok) (v0 : Value) (us : List Value),
    (x, instObj 230 d) ∈ news ∧ (d, dictOf [⟨h1, .str "default" t1, v0⟩, ⟨h2, .str "starts" t2, .ref ls⟩, ⟨h3, .str "values" t3, .ref lv⟩] n) ∈ news ∧ TL news ls st ∧ (lv, listOf us.toArray k) ∈ news ∧ DatAll news us vs
theorem IsRM.mono {news news' : Led} {x : Addr} {st : List Int} {vs : List Dat} (h : IsRM news x st vs) (s : ∀ p ∈ news, p ∈ news') : IsRM news' x st vs :=
  let ⟨d, ls, lv, n, k, h1, h2, h3, t1, t2, t3, v0, us, a, b, c, e, f⟩ := h
  ⟨d, ls, lv, n, k, h1, h2, h3, t1, t2, t3, v0, us, s _ a, s _ b, c.mono s, s _ e, f.mono s⟩
def IsData (w : World) (news : Led) (x : Addr) (sa : List Int) (va : List Dat) (sb : List Int) (vb : List Dat) : Prop :=
  ∃ (dx mp r1 r2 : Addr) (n : Nat) (h1 h2 h3 h4 : Int) (t1 t2 t3 t4 : Tok) (v1 v3 v4 : Value) (om : Obj),
    (x, instObj 279 dx) ∈ news ∧ (dx, dictOf [⟨h1, .str "defaults" t1, v1⟩, ⟨h2, .str "maps" t2, .ref mp⟩, ⟨h3, .str "properties" t3, v3⟩, ⟨h4, .str "words" t4, v4⟩] n) ∈ news ∧
    (mp, om) ∈ news ∧ om.IsDictOf (PySem.strKind PP w) [(Str.ofString "nt", .ref r1), (Str.ofString "nv", .ref r2)] ∧ (mp == sysModules) = false ∧ IsRM news r1 sa va ∧ IsRM news r2 sb vb
theorem IsData.mono {w : World} {news news' : Led} {x : Addr} {sa sb : List Int} {va vb : List Dat} (h : IsData w news x sa va sb vb) (s : ∀ p ∈ news, p ∈ news') : IsData w news' x sa va sb vb :=
  let ⟨dx, mp, r1, r2, n, h1, h2, h3, h4, t1, t2, t3, t4, v1, v3, v4, om, a, b, c, e, f, g, i⟩ := h
  ⟨dx, mp, r1, r2, n, h1, h2, h3, h4, t1, t2, t3, t4, v1, v3, v4, om, s _ a, s _ b, s _ c, e, f, g.mono s, i.mono s⟩

section
local macro_rules | `(tactic| walk_at "subscriptTail Attribute Name Call ref int") => `(tactic| (k_here; k_dflt (refine' kd_item ?N ?t ?D ?a ?b ?z ?_ ?s; (case N => k_asm); (case t => k_mem); (case D => assumption); (case a => omega); (case b => omega); (case z => omega); (case s => with_unfolding_all rfl); k_whole); intro v' d' hk' hm' hD'))
theorem rm_get_c (w : World) (news : Led) (x : Addr) (st : List Int) (vs : List Dat) (c : Int) (tc : Tok) (hx : IsRM news x st vs) (hn : st.length < 1000) (hp : st.Pairwise (· < ·)) (hc : 0 < cntLE st c) (hv : cntLE st c ≤ vs.length) (hz : vs.length < 1000) :
    Spec w 206 [.ref x, .int c tc] 2 news (fun v nx => nx = news ∧ ∃ d, vs[cntLE st c - 1]? = some d ∧ DatIn news v d) := by
  intro mean mg mb dp un gd cn cs a ccd cl outer A₀ base h₀ L m s Q E B F X N T hk hd hu ret
  obtain ⟨d, ls, lv, n, k, h1, h2, h3, t1, t2, t3, v0, us, m1, m2, m3, m4, m5⟩ := hx
  refine wpAny_call ?_
  k_dflt ktr_enter
  rename Fr _ _ _ _ => F0
  have F1 : Fr _ _ _ (fun y => List.lookup y [(Str.ofString "code", Value.int c tc), (Str.ofString "self", Value.ref x)]) := F0
  clear F0
  k_steps
  rename vs[_]? = some _ => hk1
  refine ret _ _ _ _ ⟨rfl, _, ?_, by assumption⟩ (by assumption) (by assumption)
  rw [← hk1]; congr 1; omega
end
local macro_rules | `(tactic| walk_at "mine pad3") => `(tactic| skip)
local macro_rules | `(tactic| walk_at "mine pad4") => `(tactic| skip)
--@M
local macro_rules | `(tactic| walk_at "call ref cons nil") => `(tactic| (k_here; (with_reducible show wpAny _ _ (call (Value.ref 206) _ _) _ _ _); k_dflt (refine' Spec.use ?B ?F ?X ?N ?T ?K (rm_get_c _ _ _ _ _ _ _ ?h1 ?h2 ?h3 ?h4 ?h5 ?h6) ?d ?u ?_; (case B => k_asm); (case F => k_asm); (case X => k_asm); (case N => k_asm); (case T => k_asm); (case K => first | exact rfl | assumption); (case h1 => first | assumption | exact IsRM.mono (by assumption) (by first | exact fun _ h => h | (intro p hp; kcf_m))); (case h2 => first | assumption | omega); (case h3 => assumption); (case h4 => assumption); (case h5 => assumption); (case h6 => first | assumption | omega); (case d => ktr_room); (case u => ktr_units); k_whole); (intro v' nx' h' tk' O' F' N'; (obtain ⟨e1, d', hk', hD'⟩ := O'); subst nx'); (try k_sweep); (try dsimp only); (try k_fold)))
--@E
section
local macro_rules | `(tactic| walk_at "compareOp In str ref") => `(tactic| (k_here; k_dflt (refine kda_in (knd := PySem.strKind _ _) (by k_asm) (by k_mem) (by k_asm) (by k_asm) (strKind_is _ _ _ _) true (by rfl) ?_)))
local macro_rules | `(tactic| walk_at "subscriptTail Name Name ref str") => `(tactic| (k_here; k_dflt (refine kda_item (knd := PySem.strKind _ _) (by k_asm) (by k_mem) (by k_asm) (strKind_is _ _ _ _) (by rfl) ?_); (try dsimp only)))
theorem data_get_nt_c (w : World) (news : Led) (x : Addr) (sa sb : List Int) (va vb : List Dat) (c : Int) (tn tc : Tok) (hx : IsData w news x sa va sb vb) (hn : sa.length < 1000) (hp : sa.Pairwise (· < ·)) (hc : 0 < cntLE sa c) (hv : cntLE sa c ≤ va.length) (hz : va.length < 1000) :
    Spec w 269 [.ref x, .str (Str.ofString "nt") tn, .int c tc] 3 news (fun v nx => nx = news ∧ ∃ d, va[cntLE sa c - 1]? = some d ∧ DatIn news v d) := by
  intro mean mg mb dp un gd cn cs a ccd cl outer A₀ base h₀ L m s Q E B F X N T hk hd hu ret
  obtain ⟨dx, mp, r1, r2, n, h1, h2, h3, h4, t1, t2, t3, t4, v1, v3, v4, om, m1, m2, m3, m4, m5, m6, m7⟩ := hx
  have m6' := m6
  obtain ⟨d6, ls6, lv6, n6, k6, h16, h26, h36, t16, t26, t36, v06, us6, m61, m62, -⟩ := m6'
  refine wpAny_call ?_
  k_dflt ktr_enter
  rename Fr _ _ _ _ => F0
  have F1 : Fr _ _ _ (fun y => List.lookup y [(Str.ofString "code", Value.int c tc), (Str.ofString "name", Value.str (Str.ofString "nt") tn), (Str.ofString "self", Value.ref x)]) := F0
  clear F0
  k_steps
  rename va[_]? = some _ => hk1
  exact ret _ _ _ _ ⟨rfl, _, hk1, by assumption⟩ (by assumption) (by assumption)
theorem data_get_nv_c (w : World) (news : Led) (x : Addr) (sa sb : List Int) (va vb : List Dat) (c : Int) (tn tc : Tok) (hx : IsData w news x sa va sb vb) (hn : sb.length < 1000) (hp : sb.Pairwise (· < ·)) (hc : 0 < cntLE sb c) (hv : cntLE sb c ≤ vb.length) (hz : vb.length < 1000) :
    Spec w 269 [.ref x, .str (Str.ofString "nv") tn, .int c tc] 3 news (fun v nx => nx = news ∧ ∃ d, vb[cntLE sb c - 1]? = some d ∧ DatIn news v d) := by
  intro mean mg mb dp un gd cn cs a ccd cl outer A₀ base h₀ L m s Q E B F X N T hk hd hu ret
  obtain ⟨dx, mp, r1, r2, n, h1, h2, h3, h4, t1, t2, t3, t4, v1, v3, v4, om, m1, m2, m3, m4, m5, m6, m7⟩ := hx
  have m6' := m7
  obtain ⟨d6, ls6, lv6, n6, k6, h16, h26, h36, t16, t26, t36, v06, us6, m61, m62, -⟩ := m6'
  refine wpAny_call ?_
  k_dflt ktr_enter
  rename Fr _ _ _ _ => F0
  have F1 : Fr _ _ _ (fun y => List.lookup y [(Str.ofString "code", Value.int c tc), (Str.ofString "name", Value.str (Str.ofString "nv") tn), (Str.ofString "self", Value.ref x)]) := F0
  clear F0
  k_steps
  rename vb[_]? = some _ => hk1
  exact ret _ _ _ _ ⟨rfl, _, hk1, by assumption⟩ (by assumption) (by assumption)
end
local macro_rules | `(tactic| walk_at "mine pad5") => `(tactic| skip)
local macro_rules | `(tactic| walk_at "mine pad6") => `(tactic| skip)
local macro_rules | `(tactic| walk_at "mine pad7") => `(tactic| skip)
theorem unit_d1_digits : True := by
  w_top off
  trivial
/-! ## the database as it stands; the codes -/
theorem Spec.mono {w : World} {f : Addr} {vs : List Value} {r : Nat} {news : Led} {Out Out' : Value → Led → Prop} (S : Spec w f vs r news Out) (h : ∀ v nx, Out v nx → Out' v nx) : Spec w f vs r news Out' :=
  fun mean mg mb dp un gd cn cs a ccd cl outer A₀ base h₀ L m s Q E B F X N T hk hd hu ret =>
    S mean mg mb dp un gd cn cs a ccd cl outer A₀ base h₀ L m s Q E B F X N T hk hd hu fun v nx h' tk' o => ret v nx h' tk' (h v nx o)
def Alpha : List Int := [48, 49, 50, 51, 52, 53, 54, 55, 56, 57, 1632, 1633, 1634, 1635, 1636, 1637, 1638, 1639, 1640, 1641, 8260, 189, 8533, 3884, 8548, 178, 12295, 3891, 8542, 97]
abbrev sDe : Dat := .str (Str.ofString "de")
abbrev sNu : Dat := .str (Str.ofString "nu")
abbrev dPair (a b : Int) : Dat := .tuple [.int a, .int b]
def ntS : List Int := [0, 48, 58, 178, 179, 189, 190, 1632, 1642, 3884, 3885, 3891, 3892, 8533, 8534, 8542, 8543, 8548, 8549, 12295, 12296]
def ntV : List Dat := [.none, sDe, .none, sNu, .none, sNu, .none, sDe, .none, sNu, .none, sNu, .none, sNu, .none, sNu, .none, sNu, .none, sNu, .none]
def nvS : List Int := [0, 48, 49, 50, 51, 52, 53, 54, 55, 56, 57, 58, 178, 179, 189, 190, 1632, 1633, 1634, 1635, 1636, 1637, 1638, 1639, 1640, 1641, 1642, 3884, 3885, 3891, 3892, 8533, 8534, 8542, 8543, 8548, 8549, 12295, 12296]
def nvV : List Dat := [.none, dPair 0 1, dPair 1 1, dPair 2 1, dPair 3 1, dPair 4 1, dPair 5 1, dPair 6 1, dPair 7 1, dPair 8 1, dPair 9 1, .none, dPair 2 1, .none, dPair 1 2, .none, dPair 0 1, dPair 1 1, dPair 2 1, dPair 3 1, dPair 4 1, dPair 5 1, dPair 6 1, dPair 7 1, dPair 8 1, dPair 9 1, .none, dPair 7 2, .none, dPair (-1) 2, .none, dPair 1 5, .none, dPair 7 8, .none, dPair 5 1, .none, dPair 0 1, .none]
abbrev IsD (w : World) (news : Led) (x : Addr) : Prop := IsData w news x ntS ntV nvS nvV
/-- the row a digit stands in -/
def zof (c : Int) : Option Int := if 48 ≤ c ∧ c < 58 then some 48 else if 1632 ≤ c ∧ c < 1642 then some 1632 else none
/-- a sign's number -/
def sgn (c : Int) : Option (Int × Int) :=
  if c = 189 then some (1, 2) else if c = 8533 then some (1, 5) else if c = 3884 then some (7, 2) else if c = 8548 then some (5, 1) else if c = 178 then some (2, 1)
  else if c = 12295 then some (0, 1) else if c = 3891 then some (-1, 2) else if c = 8542 then some (7, 8) else none
def nvOf (c : Int) : Option (Int × Int) := match zof c with | some z => some (c - z, 1) | none => sgn c
theorem alpha_all {P : Int → Prop} (h48 : P 48) (h49 : P 49) (h50 : P 50) (h51 : P 51) (h52 : P 52) (h53 : P 53) (h54 : P 54) (h55 : P 55) (h56 : P 56) (h57 : P 57) (k0 : P 1632) (k1 : P 1633) (k2 : P 1634) (k3 : P 1635) (k4 : P 1636) (k5 : P 1637) (k6 : P 1638) (k7 : P 1639) (k8 : P 1640) (k9 : P 1641)
    (s : P 8260) (a : P 189) (b : P 8533) (d : P 3884) (e : P 8548) (f : P 178) (g : P 12295) (i : P 3891) (j : P 8542) (l : P 97) : ∀ c ∈ Alpha, P c := by
  unfold Alpha
  repeat (refine List.forall_mem_cons.mpr ⟨by assumption, ?_⟩)
  exact List.forall_mem_nil _
theorem nt_at : ∀ c ∈ Alpha, 0 < cntLE ntS c ∧ cntLE ntS c ≤ ntV.length ∧ ntV[cntLE ntS c - 1]? = some (if (zof c).isSome then sDe else if (sgn c).isSome then sNu else .none) :=
  alpha_all ⟨by decide, by decide, rfl⟩ ⟨by decide, by decide, rfl⟩ ⟨by decide, by decide, rfl⟩ ⟨by decide, by decide, rfl⟩ ⟨by decide, by decide, rfl⟩ ⟨by decide, by decide, rfl⟩ ⟨by decide, by decide, rfl⟩ ⟨by decide, by decide, rfl⟩ ⟨by decide, by decide, rfl⟩ ⟨by decide, by decide, rfl⟩ ⟨by decide, by decide, rfl⟩ ⟨by decide, by decide, rfl⟩ ⟨by decide, by decide, rfl⟩ ⟨by decide, by decide, rfl⟩ ⟨by decide, by decide, rfl⟩ ⟨by decide, by decide, rfl⟩ ⟨by decide, by decide, rfl⟩ ⟨by decide, by decide, rfl⟩ ⟨by decide, by decide, rfl⟩ ⟨by decide, by decide, rfl⟩ ⟨by decide, by decide, rfl⟩ ⟨by decide, by decide, rfl⟩ ⟨by decide, by decide, rfl⟩ ⟨by decide, by decide, rfl⟩ ⟨by decide, by decide, rfl⟩ ⟨by decide, by decide, rfl⟩ ⟨by decide, by decide, rfl⟩ ⟨by decide, by decide, rfl⟩ ⟨by decide, by decide, rfl⟩ ⟨by decide, by decide, rfl⟩
theorem nv_at : ∀ c ∈ Alpha, 0 < cntLE nvS c ∧ cntLE nvS c ≤ nvV.length ∧ nvV[cntLE nvS c - 1]? = some (match nvOf c with | some p => dPair p.1 p.2 | none => .none) :=
  alpha_all ⟨by decide, by decide, rfl⟩ ⟨by decide, by decide, rfl⟩ ⟨by decide, by decide, rfl⟩ ⟨by decide, by decide, rfl⟩ ⟨by decide, by decide, rfl⟩ ⟨by decide, by decide, rfl⟩ ⟨by decide, by decide, rfl⟩ ⟨by decide, by decide, rfl⟩ ⟨by decide, by decide, rfl⟩ ⟨by decide, by decide, rfl⟩ ⟨by decide, by decide, rfl⟩ ⟨by decide, by decide, rfl⟩ ⟨by decide, by decide, rfl⟩ ⟨by decide, by decide, rfl⟩ ⟨by decide, by decide, rfl⟩ ⟨by decide, by decide, rfl⟩ ⟨by decide, by decide, rfl⟩ ⟨by decide, by decide, rfl⟩ ⟨by decide, by decide, rfl⟩ ⟨by decide, by decide, rfl⟩ ⟨by decide, by decide, rfl⟩ ⟨by decide, by decide, rfl⟩ ⟨by decide, by decide, rfl⟩ ⟨by decide, by decide, rfl⟩ ⟨by decide, by decide, rfl⟩ ⟨by decide, by decide, rfl⟩ ⟨by decide, by decide, rfl⟩ ⟨by decide, by decide, rfl⟩ ⟨by decide, by decide, rfl⟩ ⟨by decide, by decide, rfl⟩
theorem ntS_asc : ntS.Pairwise (· < ·) := by decide
theorem nvS_asc : nvS.Pairwise (· < ·) := by decide
theorem get_nt_c (w : World) (news : Led) (x : Addr) (c : Int) (tn tc : Tok) (hx : IsD w news x) (hc : c ∈ Alpha) :
    Spec w 269 [.ref x, .str (Str.ofString "nt") tn, .int c tc] 3 news (fun v nx => nx = news ∧ (((zof c).isSome = true ∧ ∃ t, v = .str (Str.ofString "de") t) ∨ (zof c = none ∧ (v = .none ∨ ∃ t, v = .str (Str.ofString "nu") t)))) := by
  obtain ⟨a1, a2, a3⟩ := nt_at c hc
  refine (data_get_nt_c w news x ntS nvS ntV nvV c tn tc hx (by decide) ntS_asc a1 a2 (by decide)).mono ?_
  rintro v nx ⟨e, d, hd, hv⟩
  refine ⟨e, ?_⟩
  rw [a3] at hd
  have hd := Option.some.inj hd
  subst hd
  cases hz : zof c with
  | some z =>
    rw [hz] at hv
    simp only [Option.isSome_some, if_true] at hv
    cases hv with
    | str _ t => exact .inl ⟨rfl, t, rfl⟩
  | none =>
    rw [hz] at hv
    simp only [Option.isSome_none, Bool.false_eq_true, if_false] at hv
    refine .inr ⟨rfl, ?_⟩
    split at hv
    · cases hv with
      | str _ t => exact .inr ⟨t, rfl⟩
    · cases hv with
      | none => exact .inl rfl
theorem get_nv_c (w : World) (news : Led) (x : Addr) (c : Int) (tn tc : Tok) (hx : IsD w news x) (hc : c ∈ Alpha) :
    Spec w 269 [.ref x, .str (Str.ofString "nv") tn, .int c tc] 3 news (fun v nx => nx = news ∧ ((nvOf c = none ∧ v = .none) ∨ ∃ p T ta tb k, nvOf c = some p ∧ v = .ref T ∧ (T, ({ cls := .type "tuple", data := .seq [Value.int p.1 ta, Value.int p.2 tb].toArray k } : Obj)) ∈ news)) := by
  obtain ⟨a1, a2, a3⟩ := nv_at c hc
  refine (data_get_nv_c w news x ntS nvS ntV nvV c tn tc hx (by decide) nvS_asc a1 a2 (by decide)).mono ?_
  rintro v nx ⟨e, d, hd, hv⟩
  refine ⟨e, ?_⟩
  rw [a3] at hd
  have hd := Option.some.inj hd
  subst hd
  cases hz : nvOf c with
  | some p =>
    rw [hz] at hv
    cases hv with
    | tuple hm hall =>
      cases hall with
      | cons ha hr =>
        cases hr with
        | cons hb hn =>
          cases hn
          cases ha
          cases hb
          exact .inr ⟨p, _, _, _, _, rfl, rfl, hm⟩
  | none =>
    rw [hz] at hv
    cases hv
    exact .inl ⟨rfl, rfl⟩
theorem at_alpha {ns : List Int} {i : Int} (hA : ∀ c ∈ ns, c ∈ Alpha) (_h0 : 0 ≤ i) (h1 : i < (ns.length : Int)) : ns.getD i.toNat 0 ∈ Alpha := by
  have hlt : i.toNat < ns.length := by omega
  have e : ns.getD i.toNat 0 = ns[i.toNat] := by simp [List.getD, hlt]
  rw [e]; exact hA _ (List.getElem_mem hlt)
def dgt (c : Int) : Option Int := match zof c with | some z => some (c - z) | none => none
theorem dgt_of {c : Int} {p : Int × Int} (h : (zof c).isSome = true) (h2 : nvOf c = some p) : dgt c = some p.1 := by
  unfold nvOf at h2; unfold dgt
  cases hz : zof c with
  | none => rw [hz] at h; cases h
  | some z => rw [hz] at h2; cases h2; rfl
theorem nv_not {c : Int} (h : (zof c).isSome = true) (h2 : nvOf c = none) : False := by
  unfold nvOf at h2
  cases hz : zof c with
  | none => rw [hz] at h; cases h
  | some z => rw [hz] at h2; cases h2
theorem dgt_none {c : Int} (h : zof c = none) : dgt c = none := by unfold dgt; rw [h]
section
local macro_rules | `(tactic| walk_at "call ref cons nil") => `(tactic| (k_here; (with_reducible show wpAny _ _ (call (Value.ref 269) _ _) _ _ _); k_dflt (refine' Spec.use ?B ?F ?X ?N ?T ?K (get_nt_c _ _ _ _ _ _ ?h1 ?h2) ?d ?u ?_; (case B => k_asm); (case F => k_asm); (case X => k_asm); (case N => k_asm); (case T => k_asm); (case K => first | exact rfl | assumption); (case h1 => assumption); (case h2 => assumption); (case d => ktr_room); (case u => ktr_units); k_whole); (intro v' nx' h' tk' O' F' N'; (obtain ⟨e1, o1⟩ := O'); subst nx'; (rcases o1 with ⟨z1, t1, e2⟩ | ⟨z1, e2 | ⟨t1, e2⟩⟩) <;> subst e2) <;> ((try k_sweep); (try dsimp only); (try k_fold))))
local macro_rules | `(tactic| walk_at "call ref cons nil") => `(tactic| (k_here; (with_reducible show wpAny _ _ (call (Value.ref 269) _ _) _ _ _); k_dflt (refine' Spec.use ?B ?F ?X ?N ?T ?K (get_nv_c _ _ _ _ _ _ ?h1 ?h2) ?d ?u ?_; (case B => k_asm); (case F => k_asm); (case X => k_asm); (case N => k_asm); (case T => k_asm); (case K => first | exact rfl | assumption); (case h1 => assumption); (case h2 => assumption); (case d => ktr_room); (case u => ktr_units); k_whole); (intro v' nx' h' tk' O' F' N'; (obtain ⟨e1, o1⟩ := O'); subst nx'; (rcases o1 with ⟨z1, e2⟩ | ⟨p1, T1, ta1, tb1, k1, z1, e2, hm1⟩) <;> subst e2) <;> ((try k_sweep); (try dsimp only); (try k_fold))))
theorem decimal_digit_c (w : World) (news : Led) (x : Addr) (c : Int) (tc : Tok) (hx : IsD w news x) (hc : c ∈ Alpha) :
    Spec w 68 [.int c tc, .ref x] 4 news (fun v nx => nx = news ∧ ((dgt c = none ∧ v = .none) ∨ ∃ d t, dgt c = some d ∧ v = .int d t)) := by
  intro mean mg mb dp un gd cn cs a ccd cl outer A₀ base h₀ L m s Q E B F X N T hk hd hu ret
  have hx' := hx
  obtain ⟨dx, mp, r1, r2, n, h1, h2, h3, h4, t1, t2, t3, t4, v1, v3, v4, om, m1, m2, -⟩ := hx'
  refine wpAny_call ?_
  k_dflt ktr_enter
  rename Fr _ _ _ _ => F0
  have F1 : Fr _ _ _ (fun y => List.lookup y [(Str.ofString "data", Value.ref x), (Str.ofString "code", Value.int c tc)]) := F0
  clear F0
  k_steps
  all_goals first
    | (rename nvOf c = some _ => q2; rename (zof c).isSome = true => q1; exact ret _ _ _ _ ⟨rfl, .inr ⟨_, _, dgt_of q1 q2, rfl⟩⟩ (by assumption) (by assumption))
    | (rename nvOf c = none => q2; rename (zof c).isSome = true => q1; exact (nv_not q1 q2).elim)
    | (rename zof c = none => q1; exact ret _ _ _ _ ⟨rfl, .inl ⟨dgt_none q1, rfl⟩⟩ (by assumption) (by assumption))
end
local macro_rules | `(tactic| walk_at "mine pad8") => `(tactic| skip)
local macro_rules | `(tactic| walk_at "mine pad9") => `(tactic| skip)
local macro_rules | `(tactic| walk_at "mine pad10") => `(tactic| skip)
--@M
local macro_rules | `(tactic| walk_at "call ref cons nil") => `(tactic| (k_here; (with_reducible show wpAny _ _ (call (Value.ref 68) _ _) _ _ _); k_dflt (refine' Spec.use ?B ?F ?X ?N ?T ?K (decimal_digit_c _ _ _ _ _ ?h1 ?h2) ?d ?u ?_; (case B => k_asm); (case F => k_asm); (case X => k_asm); (case N => k_asm); (case T => k_asm); (case K => first | exact rfl | assumption); (case h1 => first | assumption | exact IsData.mono (by assumption) (by first | exact fun _ h => h | (intro p hp; kcf_m))); (case h2 => first | assumption | exact at_alpha (by assumption) (by omega) (by omega)); (case d => ktr_room); (case u => ktr_units); k_whole); (intro v' nx' h' tk' O' F' N'; (obtain ⟨e1, o1⟩ := O'); subst nx'; (rcases o1 with ⟨z1, e2⟩ | ⟨d1, t1, z1, e2⟩) <;> subst e2) <;> ((try k_sweep); (try dsimp only); (try k_fold))))
--@E
theorem zof_none {c : Int} (h : dgt c = none) : zof c = none := by
  unfold dgt at h
  cases hz : zof c with
  | none => rfl
  | some z => rw [hz] at h; cases h
theorem zof_some {c d : Int} (h : dgt c = some d) : zof c = some (c - d) := by
  unfold dgt at h
  cases hz : zof c with
  | none => rw [hz] at h; cases h
  | some z =>
    rw [hz] at h
    have := Option.some.inj h
    congr 1; omega
theorem zero_of_c (w : World) (news : Led) (x : Addr) (c : Int) (tc : Tok) (hx : IsD w news x) (hc : c ∈ Alpha) :
    Spec w 75 [.int c tc, .ref x] 5 news (fun v nx => nx = news ∧ ((zof c = none ∧ v = .none) ∨ ∃ z t, zof c = some z ∧ v = .int z t)) := by
  intro mean mg mb dp un gd cn cs a ccd cl outer A₀ base h₀ L m s Q E B F X N T hk hd hu ret
  refine wpAny_call ?_
  k_dflt ktr_enter
  rename Fr _ _ _ _ => F0
  have F1 : Fr _ _ _ (fun y => List.lookup y [(Str.ofString "data", Value.ref x), (Str.ofString "code", Value.int c tc)]) := F0
  clear F0
  k_steps
  all_goals first
    | (rename dgt c = none => q1; exact ret _ _ _ _ ⟨rfl, .inl ⟨zof_none q1, rfl⟩⟩ (by assumption) (by assumption))
    | (rename dgt c = some _ => q1; exact ret _ _ _ _ ⟨rfl, .inr ⟨_, _, zof_some q1, rfl⟩⟩ (by assumption) (by assumption))
--@M
local macro_rules | `(tactic| walk_at "call ref cons nil") => `(tactic| (k_here; (with_reducible show wpAny _ _ (call (Value.ref 75) _ _) _ _ _); k_dflt (refine' Spec.use ?B ?F ?X ?N ?T ?K (zero_of_c _ _ _ _ _ ?h1 ?h2) ?d ?u ?_; (case B => k_asm); (case F => k_asm); (case X => k_asm); (case N => k_asm); (case T => k_asm); (case K => first | exact rfl | assumption); (case h1 => first | assumption | exact IsData.mono (by assumption) (by first | exact fun _ h => h | (intro p hp; kcf_m))); (case h2 => first | assumption | exact at_alpha (by assumption) (by omega) (by omega)); (case d => ktr_room); (case u => ktr_units); k_whole); (intro v' nx' h' tk' O' F' N'; (obtain ⟨e1, o1⟩ := O'); subst nx'; (rcases o1 with ⟨z1, e2⟩ | ⟨d1, t1, z1, e2⟩) <;> subst e2) <;> ((try k_sweep); (try dsimp only); (try k_fold))))
--@E
theorem unit_d2_sign : True := by
  w_top off
  trivial
/-! ## number_is_sign -/
def isSign (ns : List Int) (i : Int) : Bool := decide (i < (ns.length : Int)) && (zof (ns.getD i.toNat 0)).isNone && (sgn (ns.getD i.toNat 0)).isSome
theorem isSign_off {ns : List Int} {i : Int} (h : (ns.length : Int) ≤ i) : isSign ns i = false := by
  unfold isSign; rw [decide_eq_false (by omega)]; rfl
theorem isSign_dig {ns : List Int} {i d : Int} (h : dgt (ns.getD i.toNat 0) = some d) : isSign ns i = false := by
  unfold isSign; rw [zof_some h]; simp
theorem isSign_yes {ns : List Int} {i : Int} {p : Int × Int} (hi : i < (ns.length : Int)) (h : dgt (ns.getD i.toNat 0) = none) (h2 : nvOf (ns.getD i.toNat 0) = some p) : isSign ns i = true := by
  have hz := zof_none h
  unfold nvOf at h2; rw [hz] at h2; dsimp only at h2
  unfold isSign; rw [decide_eq_true hi, hz, h2]; rfl
theorem isSign_no {ns : List Int} {i : Int} (h : dgt (ns.getD i.toNat 0) = none) (h2 : nvOf (ns.getD i.toNat 0) = none) : isSign ns i = false := by
  have hz := zof_none h
  unfold nvOf at h2; rw [hz] at h2; dsimp only at h2
  unfold isSign; rw [hz, h2]; simp
section
local macro_rules | `(tactic| walk_at "call ref cons nil") => `(tactic| (k_here; (with_reducible show wpAny _ _ (call (Value.ref 269) _ _) _ _ _); k_dflt (refine' Spec.use ?B ?F ?X ?N ?T ?K (get_nv_c _ _ _ _ _ _ ?h1 ?h2) ?d ?u ?_; (case B => k_asm); (case F => k_asm); (case X => k_asm); (case N => k_asm); (case T => k_asm); (case K => first | exact rfl | assumption); (case h1 => assumption); (case h2 => first | assumption | exact at_alpha (by assumption) (by omega) (by omega)); (case d => ktr_room); (case u => ktr_units); k_whole); (intro v' nx' h' tk' O' F' N'; (obtain ⟨e1, o1⟩ := O'); subst nx'; (rcases o1 with ⟨z1, e2⟩ | ⟨p1, T1, ta1, tb1, k1, z1, e2, hm1⟩) <;> subst e2) <;> ((try k_sweep); (try dsimp only); (try k_fold))))
theorem is_sign_c (w : World) (news : Led) (l x : Addr) (ns : List Int) (i : Int) (ti : Tok) (hl : TL news l ns) (hx : IsD w news x) (hA : ∀ c ∈ ns, c ∈ Alpha) (hn : ns.length < 100) (h0 : 0 ≤ i) (h1 : i < 200) :
    Spec w 180 [.ref l, .int i ti, .ref x] 6 news (fun v nx => nx = news ∧ v = .bool (isSign ns i)) := by
  intro mean mg mb dp un gd cn cs a ccd cl outer A₀ base h₀ L m s Q E B F X N T hk hd hu ret
  have hx' := hx
  obtain ⟨dx, mp, r1, r2, n, h1, h2, h3, h4, t1, t2, t3, t4, v1, v3, v4, om, m1, m2, -⟩ := hx'
  refine wpAny_call ?_
  k_dflt ktr_enter
  rename Fr _ _ _ _ => F0
  have F1 : Fr _ _ _ (fun y => List.lookup y [(Str.ofString "data", Value.ref x), (Str.ofString "at", Value.int i ti), (Str.ofString "text", Value.ref l)]) := F0
  clear F0
  k_steps
  all_goals (refine ret _ _ _ _ ⟨rfl, congrArg Value.bool ?_⟩ (by assumption) (by assumption))
  all_goals first
    | (rename dgt _ = none => q1; rename nvOf _ = some _ => q2; exact (isSign_yes (by omega) q1 q2).symm)
    | (rename dgt _ = none => q1; rename nvOf _ = none => q2; exact (isSign_no q1 q2).symm)
    | (rename dgt _ = some _ => q1; exact (isSign_dig q1).symm)
    | exact (isSign_off (by omega)).symm
end
local macro_rules | `(tactic| walk_at "mine pad11") => `(tactic| skip)
local macro_rules | `(tactic| walk_at "mine pad12") => `(tactic| skip)
theorem is_sign_e (w : World) (news : Led) (l x : Addr) (ns : List Int) (i : Int) (ti : Tok) (hl : TL news l ns) (hx : IsD w news x) (hA : ∀ c ∈ ns, c ∈ Alpha) (hn : ns.length < 100) (h0 : 0 ≤ i) (h1 : i < 200) :
    Spec w 180 [.ref l, .int i ti, .ref x] 6 news (fun v nx => nx = news ∧ ((∃ p, i < (ns.length : Int) ∧ sgn (ns.getD i.toNat 0) = some p ∧ v = .bool true) ∨ ((i < (ns.length : Int) → sgn (ns.getD i.toNat 0) = none ∨ (zof (ns.getD i.toNat 0)).isSome = true) ∧ v = .bool false))) := by
  refine (is_sign_c w news l x ns i ti hl hx hA hn h0 h1).mono ?_
  rintro v nx ⟨e, rfl⟩
  refine ⟨e, ?_⟩
  unfold isSign
  by_cases hi : i < (ns.length : Int)
  · rw [decide_eq_true hi]
    cases hz : zof (ns.getD i.toNat 0) with
    | some z => exact .inr ⟨fun _ => .inr rfl, rfl⟩
    | none =>
      cases hs : sgn (ns.getD i.toNat 0) with
      | some p => exact .inl ⟨p, hi, rfl, rfl⟩
      | none => exact .inr ⟨fun _ => .inl rfl, rfl⟩
  · rw [decide_eq_false hi]
    exact .inr ⟨fun h => absurd h hi, rfl⟩
--@M
local macro_rules | `(tactic| walk_at "call ref cons nil") => `(tactic| (k_here; (with_reducible show wpAny _ _ (call (Value.ref 180) _ _) _ _ _); k_dflt (refine' Spec.use ?B ?F ?X ?N ?T ?K (is_sign_e _ _ _ _ _ _ _ ?hl ?h1 ?h2 ?h3 ?h4 ?h5) ?d ?u ?_; (case B => k_asm); (case F => k_asm); (case X => k_asm); (case N => k_asm); (case T => k_asm); (case K => first | exact rfl | assumption); (case hl => ktr_rel); (case h1 => first | assumption | exact IsData.mono (by assumption) (by first | exact fun _ h => h | (intro p hp; kcf_m))); (case h2 => assumption); (case h3 => omega); (case h4 => omega); (case h5 => omega); (case d => ktr_room); (case u => ktr_units); k_whole); (intro v' nx' h' tk' O' F' N'; (obtain ⟨e1, o1⟩ := O'); subst nx'; (rcases o1 with ⟨p1, i1, z1, e2⟩ | ⟨z1, e2⟩) <;> subst e2) <;> ((try k_sweep); (try dsimp only); (try k_fold))))
--@E
theorem unit_d3_number : True := by
  w_top off
  trivial
/-! ## number_common, number_lowest, number_plus, numeric_value -/
theorem gcd_step (a b : Int) (ha : 0 ≤ a) (hb : 0 < b) : Int.gcd b (a.fmod b) = Int.gcd a b := by
  rw [Int.fmod_eq_emod_of_nonneg _ (Int.le_of_lt hb)]
  rw [Int.gcd_comm a b]
  obtain ⟨m, rfl⟩ := Int.eq_ofNat_of_zero_le ha
  obtain ⟨n, rfl⟩ := Int.eq_ofNat_of_zero_le (Int.le_of_lt hb)
  show Nat.gcd _ _ = Nat.gcd _ _
  rw [Int.natAbs_emod_of_nonneg (by omega)]
  simp only [Int.natAbs_natCast]
  rw [Nat.gcd_comm n (m % n), ← Nat.gcd_rec]
theorem gcd_abs (a b : Int) : Int.gcd (if a < 0 then -a else a) (if b < 0 then -b else b) = Int.gcd a b := by
  split <;> split <;> simp [Int.gcd_neg, Int.neg_gcd]
theorem gcd_bd (a : Int) {b : Int} (hb : 0 < b) : (0 : Int) < (Int.gcd a b : Nat) ∧ ((Int.gcd a b : Nat) : Int) ≤ b := by
  have h1 : 0 < Int.gcd a b := Int.gcd_pos_of_ne_zero_right a (by omega)
  have h2 : Int.gcd a b ≤ b.natAbs := Nat.gcd_le_right _ (by omega)
  omega
theorem number_common_c (w : World) (news : Led) (a b : Int) (ta tb : Tok) :
    Spec w 89 [.int a ta, .int b tb] 1 news (fun v nx => nx = news ∧ ∃ g t, g = ((Int.gcd a b : Nat) : Int) ∧ (0 < b → 0 < g ∧ g ≤ b) ∧ v = .int g t) := by
  intro mean mg mb dp un gd cn cs a0 ccd cl outer A₀ base h₀ L m s Q E B F X N T hk hd hu ret
  refine wpAny_call ?_
  k_dflt ktr_enter
  rename Fr _ _ _ _ => F0
  have F1 : Fr _ _ _ (fun y => List.lookup y [(Str.ofString "other", Value.int b tb), (Str.ofString "one", Value.int a ta)]) := F0
  clear F0
  k_steps
  unfold Hold
  rename Fr _ _ _ _ => lF'
  rename News _ _ _ _ => lN'
  k_dflt (refine ksw_while (σ := Int × Tok × Int × Tok) (fun _ => news) (fun c => [(Str.ofString "one", .int c.1 c.2.1), (Str.ofString "other", .int c.2.2.1 c.2.2.2)]) (fun _ => True) [] (fun c => 0 ≤ c.1 ∧ 0 ≤ c.2.2.1 ∧ Int.gcd c.1 c.2.2.1 = Int.gcd a b) (fun c => c.2.2.1.toNat) (if a < 0 then -a else a, _, if b < 0 then -b else b, _) lF' (cb_drop lN' (fun p hp => List.mem_cons_of_mem _ hp)) trivial (List.forall_mem_cons.mpr ⟨rfl, List.forall_mem_cons.mpr ⟨rfl, List.forall_mem_nil _⟩⟩) ⟨by dsimp only; split <;> omega, by dsimp only; split <;> omega, gcd_abs a b⟩ ?_)
  rintro ⟨x, tx, y, ty⟩ u h tk - ⟨p1, p2, p3⟩ F' N'
  dsimp only at p1 p2 p3 F' ⊢
  simp only [kstB, List.contains_nil, Bool.false_eq_true, if_false] at F'
  clear lF' lN'
  k_fold
  k_steps
  all_goals (try unfold Hold)
  · rename y ≠ 0 => hy
    refine ksw_end (y, _, x.fmod y, _) (by assumption) (by assumption) (fun p hp => List.mem_cons_of_mem _ hp) trivial (List.forall_mem_cons.mpr ⟨rfl, List.forall_mem_cons.mpr ⟨rfl, List.forall_mem_nil _⟩⟩) (by ksw_same) ?_ ?_
    · dsimp only
      refine ⟨p2, ?_, ?_⟩
      · rw [Int.fmod_eq_emod_of_nonneg _ p2]; exact Int.emod_nonneg _ hy
      · rw [← p3]; exact gcd_step x y p1 (by omega)
    · dsimp only
      rw [Int.fmod_eq_emod_of_nonneg _ p2]
      have := Int.emod_lt_of_pos x (show 0 < y by omega)
      have := Int.emod_nonneg x hy
      omega
  · have hy : y = 0 := by omega
    subst hy
    have e : x = (Int.gcd a b : Nat) := by rw [← p3, Int.gcd_zero_right]; omega
    exact ret _ _ _ _ ⟨rfl, x, _, e, fun hb => by rw [e]; exact gcd_bd a hb, rfl⟩ (by assumption) (by assumption)
--@M
local macro_rules | `(tactic| walk_at "call ref cons nil") => `(tactic| (k_here; (with_reducible show wpAny _ _ (call (Value.ref 89) _ _) _ _ _); k_dflt (refine' Spec.use ?B ?F ?X ?N ?T ?K (number_common_c _ _ _ _ _ _) ?d ?u ?_; (case B => k_asm); (case F => k_asm); (case X => k_asm); (case N => k_asm); (case T => k_asm); (case K => first | exact rfl | assumption); (case d => ktr_room); (case u => ktr_units); k_whole); (intro v' nx' h' tk' O' F' N'; (obtain ⟨e1, g1, t1, hg1, hp1, e2⟩ := O'); subst nx'; subst e2); (try (have hp2 := hp1 (by omega))); (try k_sweep); (try dsimp only); (try k_fold)))
--@E
abbrev tup2 (a : Int) (ta : Tok) (b : Int) (tb : Tok) : Obj := { cls := .type "tuple", data := .seq #[Value.int a ta, Value.int b tb] }
def lowP (n d : Int) : Int × Int := (n.fdiv (Int.gcd n d : Nat), d.fdiv (Int.gcd n d : Nat))
theorem number_lowest_c (w : World) (news : Led) (a b : Int) (ta tb : Tok) (hb : 0 < b) (hb2 : b < 1000000000) :
    Spec w 96 [.int a ta, .int b tb] 2 news (fun v nx => ∃ T u1 u2, v = .ref T ∧ nx = (T, tup2 (lowP a b).1 u1 (lowP a b).2 u2) :: news ∧ ∀ p ∈ news, p.1 < T) := by
  intro mean mg mb dp un gd cn cs a0 ccd cl outer A₀ base h₀ L m s Q E B F X N T hk hd hu ret
  refine wpAny_call ?_
  k_dflt ktr_enter
  rename Fr _ _ _ _ => F0
  have F1 : Fr _ _ _ (fun y => List.lookup y [(Str.ofString "den", Value.int b tb), (Str.ofString "num", Value.int a ta)]) := F0
  clear F0
  k_steps
  rename _ = ((Int.gcd a b : Nat) : Int) => hg
  subst hg
  exact ret _ _ _ _ ⟨_, _, _, rfl, rfl, by assumption⟩ (by assumption) (by assumption)
--@M
local macro_rules | `(tactic| walk_at "call ref cons nil") => `(tactic| (k_here; (with_reducible show wpAny _ _ (call (Value.ref 96) _ _) _ _ _); k_dflt (refine' Spec.use ?B ?F ?X ?N ?T ?K (number_lowest_c _ _ _ _ _ _ ?hb ?hc) ?d ?u ?_; (case B => k_asm); (case F => k_asm); (case X => k_asm); (case N => k_asm); (case T => k_asm); (case K => first | exact rfl | assumption); (case hb => omega); (case hc => omega); (case d => ktr_room); (case u => ktr_units); k_whole); (intro v' nx' h' tk' O' F' N'; (obtain ⟨T1, t1, t2, e2, e1, l1⟩ := O'); subst nx'; subst e2); (try k_lt l1); (try k_sweep); (try dsimp only); (try k_fold)))
--@E
theorem unit_d4_plus : True := by
  w_top off
  trivial
/-! ## number_plus, numeric_value -/
theorem nvOf_den {c : Int} {p : Int × Int} (h : nvOf c = some p) : 0 < p.2 ∧ p.2 < 10 := by
  unfold nvOf at h
  split at h
  · cases h; exact ⟨(by decide : (0:Int) < 1), (by decide : (1:Int) < 10)⟩
  · unfold sgn at h
    (repeat' split at h) <;> first | (cases h; decide) | cases h
theorem lowP_nv : ∀ c ∈ Alpha, ∀ p, nvOf c = some p → lowP p.1 p.2 = p := by
  refine alpha_all ?_ ?_ ?_ ?_ ?_ ?_ ?_ ?_ ?_ ?_ ?_ ?_ ?_ ?_ ?_ ?_ ?_ ?_ ?_ ?_ ?_ ?_ ?_ ?_ ?_ ?_ ?_ ?_ ?_ ?_
  all_goals (intro p h; first | (have h := Option.some.inj h; subst h; decide) | cases h)
theorem tup2_eq {p q : Int × Int} (e : p = q) (u1 u2 : Tok) : tup2 p.1 u1 p.2 u2 = tup2 q.1 u1 q.2 u2 := by rw [e]
section
local macro_rules | `(tactic| walk_at "call ref cons nil") => `(tactic| (k_here; (with_reducible show wpAny _ _ (call (Value.ref 269) _ _) _ _ _); k_dflt (refine' Spec.use ?B ?F ?X ?N ?T ?K (get_nv_c _ _ _ _ _ _ ?h1 ?h2) ?d ?u ?_; (case B => k_asm); (case F => k_asm); (case X => k_asm); (case N => k_asm); (case T => k_asm); (case K => first | exact rfl | assumption); (case h1 => assumption); (case h2 => first | assumption | exact at_alpha (by assumption) (by omega) (by omega)); (case d => ktr_room); (case u => ktr_units); k_whole); (intro v' nx' h' tk' O' F' N'; (obtain ⟨e1, o1⟩ := O'); subst nx'; (rcases o1 with ⟨z1, e2⟩ | ⟨p1, T1, ta1, tb1, k1, z1, e2, hm1⟩) <;> subst e2) <;> ((try (have q1 := nvOf_den z1)); (try k_sweep); (try dsimp only); (try k_fold))))
theorem numeric_value_c (w : World) (news : Led) (x : Addr) (c : Int) (tc : Tok) (hx : IsD w news x) (hc : c ∈ Alpha) :
    Spec w 82 [.int c tc, .ref x] 4 news (fun v nx => (nvOf c = none ∧ nx = news ∧ v = .none) ∨ ∃ p T u1 u2, nvOf c = some p ∧ v = .ref T ∧ nx = (T, tup2 p.1 u1 p.2 u2) :: news ∧ ∀ p ∈ news, p.1 < T) := by
  intro mean mg mb dp un gd cn cs a ccd cl outer A₀ base h₀ L m s Q E B F X N T hk hd hu ret
  have hx' := hx
  obtain ⟨dx, mp, r1, r2, n, h1, h2, h3, h4, t1, t2, t3, t4, v1, v3, v4, om, m1, m2, -⟩ := hx'
  refine wpAny_call ?_
  k_dflt ktr_enter
  rename Fr _ _ _ _ => F0
  have F1 : Fr _ _ _ (fun y => List.lookup y [(Str.ofString "data", Value.ref x), (Str.ofString "code", Value.int c tc)]) := F0
  clear F0
  k_steps
  · rename nvOf c = none => q1
    exact ret _ _ _ _ (.inl ⟨q1, rfl, rfl⟩) (by assumption) (by assumption)
  · rename nvOf c = some _ => q1
    have e := lowP_nv c hc _ q1
    exact ret _ _ _ _ (.inr ⟨_, _, _, _, q1, rfl, congrArg (fun q => (_, q) :: news) (tup2_eq e _ _), by assumption⟩) (by assumption) (by assumption)
end
local macro_rules | `(tactic| walk_at "mine pad13") => `(tactic| skip)
local macro_rules | `(tactic| walk_at "mine pad14") => `(tactic| skip)
theorem number_plus_c (w : World) (news : Led) (l1 l2 : Addr) (a b c d : Int) (ta tb tc td : Tok) (m1 : (l1, tup2 a ta b tb) ∈ news) (m2 : (l2, tup2 c tc d td) ∈ news) (hb : 0 < b) (hd1 : 0 < d) (hb2 : b < 10000) (hd2 : d < 10000) (ha : -1000000000 < a) (ha2 : a < 1000000000) (hc : -1000000000 < c) (hc2 : c < 1000000000) :
    Spec w 103 [.ref l1, .ref l2] 3 news (fun v nx => ∃ T u1 u2, v = .ref T ∧ nx = (T, tup2 (lowP (a * d + c * b) (b * d)).1 u1 (lowP (a * d + c * b) (b * d)).2 u2) :: news ∧ ∀ p ∈ news, p.1 < T) := by
  intro mean mg mb dp un gd cn cs a0 ccd cl outer A₀ base h₀ L m s Q E B F X N T hk hd hu ret
  refine wpAny_call ?_
  k_dflt ktr_enter
  rename Fr _ _ _ _ => F0
  have F1 : Fr _ _ _ (fun y => List.lookup y [(Str.ofString "other", Value.ref l2), (Str.ofString "one", Value.ref l1)]) := F0
  clear F0
  have hbd : 0 < b * d := Int.mul_pos hb hd1
  have hbd2 : b * d < 1000000000 := by
    have := Int.mul_lt_mul' (show b ≤ 9999 by omega) hd2 (by omega) (by decide : (0 : Int) < 9999)
    omega
  k_steps
  exact ret _ _ _ _ ⟨_, _, _, rfl, rfl, by assumption⟩ (by assumption) (by assumption)
--@M
local macro_rules | `(tactic| walk_at "call ref cons nil") => `(tactic| (k_here; (with_reducible show wpAny _ _ (call (Value.ref 82) _ _) _ _ _); k_dflt (refine' Spec.use ?B ?F ?X ?N ?T ?K (numeric_value_c _ _ _ _ _ ?h1 ?h2) ?d ?u ?_; (case B => k_asm); (case F => k_asm); (case X => k_asm); (case N => k_asm); (case T => k_asm); (case K => first | exact rfl | assumption); (case h1 => first | assumption | exact IsData.mono (by assumption) (by first | exact fun _ h => h | (intro p hp; kcf_m))); (case h2 => first | assumption | exact at_alpha (by assumption) (by omega) (by omega)); (case d => ktr_room); (case u => ktr_units); k_whole); (intro v' nx' h' tk' O' F' N'; (rcases O' with ⟨z1, e1, e2⟩ | ⟨p1, T1, u1, u2, z1, e2, e1, l1⟩) <;> subst nx' <;> subst e2) <;> ((try k_lt l1); (try k_sweep); (try dsimp only); (try k_fold))))
local macro_rules | `(tactic| walk_at "call ref cons nil") => `(tactic| (k_here; (with_reducible show wpAny _ _ (call (Value.ref 103) _ _) _ _ _); k_dflt (refine' Spec.use ?B ?F ?X ?N ?T ?K (number_plus_c _ _ _ _ _ _ _ _ _ _ _ _ ?m1 ?m2 ?a1 ?a2 ?a3 ?a4 ?a5 ?a6 ?a7 ?a8) ?d ?u ?_; (case B => k_asm); (case F => k_asm); (case X => k_asm); (case N => k_asm); (case T => k_asm); (case K => first | exact rfl | assumption); (case m1 => k_mem); (case m2 => k_mem); (case a1 => omega); (case a2 => omega); (case a3 => omega); (case a4 => omega); (case a5 => omega); (case a6 => omega); (case a7 => omega); (case a8 => omega); (case d => ktr_room); (case u => ktr_units); k_whole); (intro v' nx' h' tk' O' F' N'; (obtain ⟨T1, u1, u2, e2, e1, l1⟩ := O'); subst nx'; subst e2); (try k_lt l1); (try k_sweep); (try dsimp only); (try k_fold)))
--@E
theorem unit_e0_loops : True := by
  w_top off
  trivial
--@nofill
/-! ## loops that keep the ledger -/
/-- what a turn of a loop leaves: the names in ps, the rest as it stood, the ledger and the iterator's own -/
def FEnd {σ : Type} (h₀ : Heap) (L : Addr) (s : Shared) (x : Str) (news own : Led) (ps : σ → List (Str × Value)) (stored : List Str) (m₀ : Str → Option Value) (P : σ → Prop) (s₂ : Shared) : Prop :=
  ∃ (c' : σ) (h' : Heap) (tk : Nat) (m' : Str → Option Value) (nx : Led), s₂ = { s with heap := h', toks := tk } ∧ Fr h₀ L h' m' ∧ News h₀ L h' nx ∧ (∀ p ∈ news, p ∈ nx) ∧ (∀ p ∈ own, p ∈ nx) ∧ (∀ p ∈ ps c', m' p.1 = some p.2) ∧ (∀ z, z ≠ x → (∀ p ∈ ps c', z ≠ p.1) → stored.contains z = false → m' z = m₀ z) ∧ P c'
def FPost {σ : Type} (h₀ : Heap) (L : Addr) (s : Shared) (x : Str) (news own : Led) (ps : σ → List (Str × Value)) (stored : List Str) (m₀ : Str → Option Value) (P : σ → Prop) (Q : Flow → Shared → Prop) (f : Flow) (s₂ : Shared) : Prop :=
  match f with
  | .ret v => Q (.ret v) s₂
  | .brk => Q .next s₂
  | _ => FEnd h₀ L s x news own ps stored m₀ P s₂
theorem fend {σ : Type} {h₀ : Heap} {L : Addr} {s : Shared} {x : Str} {news own : Led} {ps : σ → List (Str × Value)} {stored : List Str} {m₀ m' : Str → Option Value} {P : σ → Prop} {h' : Heap} {tk : Nat} {nx : Led} (c' : σ)
    (F : Fr h₀ L h' m') (N : News h₀ L h' nx) (hn : ∀ p ∈ news, p ∈ nx) (ho : ∀ p ∈ own, p ∈ nx) (hk : ∀ p ∈ ps c', m' p.1 = some p.2) (hr : ∀ z, z ≠ x → (∀ p ∈ ps c', z ≠ p.1) → stored.contains z = false → m' z = m₀ z) (hp : P c') :
    FEnd h₀ L s x news own ps stored m₀ P { s with heap := h', toks := tk } := ⟨c', h', tk, m', nx, rfl, F, N, hn, ho, hk, hr, hp⟩
section
variable {prog : Program} {w : World} {A : Around} {E : Value → Shared → Prop} {s : Shared} {env : Env} {h₀ : Heap} {x : Str} {body : List Stmt} {Q : Flow → Shared → Prop}
theorem inv_of_fend {σ τ : Type} {news own : Led} {ps : σ → List (Str × Value)} {stored : List Str} {m₀ : Str → Option Value} {P : τ → σ → Prop} {pre : τ} {s₁ s₂ : Shared} {L : Addr} (h0 : KdSep own [] (news.map (·.1)))
    (q : FEnd h₀ L s₁ x news own ps stored m₀ (P pre) s₂) : InvEndG h₀ L (KdS (fun _ : σ => []) news ps (fun nx (_ : σ) => nx = news ++ []) x stored m₀ P (news.map (·.1)) pre) own s₁ s₂ := by
  obtain ⟨c', h', tk, m', nx, rfl, F, N, hn, ho, hk, hr, hp⟩ := q
  refine kd_end c' [] (tl := []) h0 F N (fun p hp => hn p (by simpa using hp)) ho rfl (fun _ h => nomatch h) (fun _ h => nomatch h) hk hr rfl hp
theorem for_tl {σ : Type} {l : Addr} {ns : List Int} {m₀ : Str → Option Value} {cur : Led} (news : Led) (ps : σ → List (Str × Value)) (stored : List Str) (P : List Int → σ → Prop) (c₀ : σ)
    (hh : A.handled = none) (t : TL news l ns) (F : Fr h₀ env.locals s.heap m₀) (N : News h₀ env.locals s.heap cur) (hsub : ∀ p ∈ news, p ∈ cur) (hk : ∀ p ∈ ps c₀, m₀ p.1 = some p.2) (hp : P [] c₀)
    (turn : ∀ (c : σ) pre post n t (u : Str → Option Value) h tk own, ns = pre ++ n :: post → n ∈ ns → P pre c →
      Fr h₀ env.locals h (fun y => if y = x then some (.int n t) else kstB (fun z => if stored.contains z then u z else m₀ z) (ps c) y) → News h₀ env.locals h (news ++ own) →
      wpAny (model prog w) A (execs body env) (FPost h₀ env.locals { s with heap := h, toks := tk } x news own ps stored m₀ (P (pre ++ [n])) Q) E { s with heap := h, toks := tk })
    (done : ∀ (c : σ) (u : Str → Option Value) h tk, P ns c → Fr h₀ env.locals h (fun y => if y = x then u y else kstB (fun z => if stored.contains z then u z else m₀ z) (ps c) y) → News h₀ env.locals h news → Q .next { s with heap := h, toks := tk }) :
    wpAny (model prog w) A (pyIter (.ref l)) (fun it s₂ => LoopAtV prog w A h₀ env x body Q E it s₂) E s := by
  obtain ⟨vs, n, hm, hi⟩ := t
  refine kd_listI (fun _ : σ => []) news ps (fun nx _ => nx = news ++ []) stored P (news.map (·.1)) c₀ hh hm hi F N (fun p hp => hsub p (by simpa using hp)) (fun _ => rfl) rfl hk hp ?_ ?_
  · intro c tl pre post n t u h tk own e hn hs ho hf hp' F' N'
    have htl : tl = [] := List.append_cancel_left hf
    subst htl
    refine wpAny_mono (turn c pre post n t u h tk own e hn hp' F' (by simpa using N')) (fun f s₂ q => ?_) fun _ _ e => e
    cases f with
    | ret v => exact q
    | brk => exact q
    | next => exact inv_of_fend hs q
    | cont => exact inv_of_fend hs q
  · intro c tl u h tk ho hf hp' F' N'
    have htl : tl = [] := List.append_cancel_left hf
    subst htl
    exact done c u h tk hp' F' (by simpa using N')
theorem for_rg {σ : Type} {r : Addr} {a₀ b₀ : Int} {t₀ u₀ v₀ : Tok} {n : Nat} {m₀ : Str → Option Value} {cur : Led} (news : Led) (ps : σ → List (Str × Value)) (stored : List Str) (P : List Int → σ → Prop) (c₀ : σ)
    (hh : A.handled = none) (hr : IsRange s.heap r a₀ b₀ 1 t₀ u₀ v₀) (hsmall : Builtin.Range.small a₀ b₀ 1 = true) (hsz : Builtin.Range.rangeSize a₀ b₀ 1 = (n : Int)) (F : Fr h₀ env.locals s.heap m₀) (N : News h₀ env.locals s.heap cur) (hsub : ∀ p ∈ news, p ∈ cur) (hk : ∀ p ∈ ps c₀, m₀ p.1 = some p.2) (hp : P [] c₀)
    (turn : ∀ (c : σ) (pre : List Int) (k : Int) t (u : Str → Option Value) h tk own, k = a₀ + (pre.length : Int) → pre.length < n → P pre c →
      Fr h₀ env.locals h (fun y => if y = x then some (.int k t) else kstB (fun z => if stored.contains z then u z else m₀ z) (ps c) y) → News h₀ env.locals h (news ++ own) →
      wpAny (model prog w) A (execs body env) (FPost h₀ env.locals { s with heap := h, toks := tk } x news own ps stored m₀ (P (pre ++ [k])) Q) E { s with heap := h, toks := tk })
    (done : ∀ (c : σ) (u : Str → Option Value) h tk, P (rangeKs a₀ n) c → Fr h₀ env.locals h (fun y => if y = x then u y else kstB (fun z => if stored.contains z then u z else m₀ z) (ps c) y) → News h₀ env.locals h news → Q .next { s with heap := h, toks := tk }) :
    wpAny (model prog w) A (pyIter (.ref r)) (fun it s₂ => LoopAtV prog w A h₀ env x body Q E it s₂) E s := by
  refine kd_range (fun _ : σ => []) news ps (fun nx _ => nx = news ++ []) stored P (news.map (·.1)) c₀ hh hr hsmall hsz F N (fun p hp => hsub p (by simpa using hp)) (fun _ => rfl) rfl hk hp ?_ ?_
  · intro c tl pre k t u h tk own e hn hs ho hf hp' F' N'
    have htl : tl = [] := List.append_cancel_left hf
    subst htl
    refine wpAny_mono (turn c pre k t u h tk own e hn hp' F' (by simpa using N')) (fun f s₂ q => ?_) fun _ _ e => e
    cases f with
    | ret v => exact q
    | brk => exact q
    | next => exact inv_of_fend hs q
    | cont => exact inv_of_fend hs q
  · intro c tl u h tk ho hf hp' F' N'
    have htl : tl = [] := List.append_cancel_left hf
    subst htl
    exact done c u h tk hp' F' (by simpa using N')
end
theorem unit_e1_decval : True := by
  w_top off
  trivial
/-! ## decimal_value -/
--@M
local macro_rules | `(tactic| walk_at "compareOp Eq ref ref") => `(tactic| (k_here; k_dflt (refine' tl_eq ?N ?a ?b ?u ?_; (case N => k_asm); (case a => ktr_rel); (case b => ktr_rel); (case u => first | omega | (simp only [units_deeper, units_in1, Around.mark_units]; (try dsimp only [ktrTop]); omega)); k_whole)))
local macro_rules | `(tactic| walk_at "FPost") => `(tactic| (dsimp only [FPost]))
local macro_rules | `(tactic| walk_at "FEnd") => `(tactic| (refine hold ?_))
--@E
def val (c : Int) : Int := (dgt c).getD 0
def decV (ns : List Int) : Int := ns.foldl (fun a c => a * 10 + val c) 0
theorem decV_snoc (ns : List Int) (c : Int) : decV (ns ++ [c]) = decV ns * 10 + val c := by simp [decV, List.foldl_append]
theorem zof_range {c z : Int} (h : zof c = some z) : z ≤ c ∧ c < z + 10 := by
  unfold zof at h
  split at h
  · cases h; omega
  · split at h
    · cases h; omega
    · cases h
theorem val_of {c z : Int} (h : zof c = some z) : val c = c - z := by unfold val dgt; rw [h]; rfl
theorem dec_go : ∀ (ns : List Int) (acc : Int) (k : Nat), (∀ c ∈ ns, (zof c).isSome = true) → 0 ≤ acc → acc < (10 : Int) ^ k →
    0 ≤ ns.foldl (fun a c => a * 10 + val c) acc ∧ ns.foldl (fun a c => a * 10 + val c) acc < (10 : Int) ^ (k + ns.length)
  | [], acc, k, _, h0, h1 => ⟨h0, h1⟩
  | c :: r, acc, k, h, h0, h1 => by
    obtain ⟨z, hz⟩ := Option.isSome_iff_exists.mp (h c (List.mem_cons_self ..))
    have h2 := zof_range hz
    have h3 := val_of hz
    have h4 := dec_go r (acc * 10 + val c) (k + 1) (fun d hd => h d (List.mem_cons_of_mem _ hd)) (by omega) (by rw [Int.pow_succ]; omega)
    rw [List.foldl_cons, List.length_cons, show k + (r.length + 1) = k + 1 + r.length by omega]
    exact h4
theorem decV_bd (ns : List Int) (h : ∀ c ∈ ns, (zof c).isSome = true) : 0 ≤ decV ns ∧ decV ns < (10 : Int) ^ ns.length := by
  have := dec_go ns 0 0 h (by decide) (by decide)
  simpa [decV] using this
theorem zero_of_k (w : World) (news : Led) (x : Addr) (c z : Int) (tc : Tok) (hx : IsD w news x) (hc : c ∈ Alpha) (hz : zof c = some z) :
    Spec w 75 [.int c tc, .ref x] 5 news (fun v nx => nx = news ∧ ∃ t, v = .int z t) := by
  refine (zero_of_c w news x c tc hx hc).mono ?_
  rintro v nx ⟨e, ⟨h, _⟩ | ⟨z', t, h, e2⟩⟩
  · rw [hz] at h; cases h
  · rw [hz] at h; cases h; exact ⟨e, t, e2⟩
theorem decimal_digit_k (w : World) (news : Led) (x : Addr) (c z : Int) (tc : Tok) (hx : IsD w news x) (hc : c ∈ Alpha) (hz : zof c = some z) :
    Spec w 68 [.int c tc, .ref x] 4 news (fun v nx => nx = news ∧ ∃ t, v = .int (c - z) t) := by
  refine (decimal_digit_c w news x c tc hx hc).mono ?_
  rintro v nx ⟨e, ⟨h, _⟩ | ⟨d, t, h, e2⟩⟩
  · unfold dgt at h; rw [hz] at h; cases h
  · unfold dgt at h; rw [hz] at h; cases h; exact ⟨e, t, e2⟩
theorem getD_zero_mem {ns : List Int} (h : 0 < ns.length) : ns.getD (0 : Int).toNat 0 ∈ ns := by
  cases ns with
  | nil => simp at h
  | cons c r => simp [List.getD]
section
local macro_rules | `(tactic| walk_at "exec For Name Name cons nil") => `(tactic| (k_here; (rename Fr _ _ _ _ => lF'); (with_unfolding_all refine' For_invVF lF' ?k1 ?k2 ?_; (case k1 => exact rfl); (case k2 => exact rfl); k_whole)))
local macro_rules | `(tactic| walk_at "pyIter ref") => `(tactic| (refine hold ?_))
local macro_rules | `(tactic| walk_at "call ref cons nil") => `(tactic| (k_here; (with_reducible show wpAny _ _ (call (Value.ref 75) _ _) _ _ _); k_dflt (refine' Spec.use ?B ?F ?X ?N ?T ?K (zero_of_k _ _ _ _ _ _ ?h1 ?h2 ?h3) ?d ?u ?_; (case B => k_asm); (case F => k_asm); (case X => k_asm); (case N => k_asm); (case T => k_asm); (case K => first | exact rfl | assumption); (case h1 => first | assumption | exact IsData.mono (by assumption) (by first | exact fun _ h => h | (intro p hp; kcf_m))); (case h3 => assumption); (case h2 => assumption); (case d => ktr_room); (case u => ktr_units); k_whole); (intro v' nx' h' tk' O' F' N'; (obtain ⟨e1, t1, e2⟩ := O'); subst nx'; subst e2); ((try k_sweep); (try dsimp only); (try k_fold))))
local macro_rules | `(tactic| walk_at "call ref cons nil") => `(tactic| (k_here; (with_reducible show wpAny _ _ (call (Value.ref 68) _ _) _ _ _); k_dflt (refine' Spec.use ?B ?F ?X ?N ?T ?K (decimal_digit_k _ _ _ _ _ _ ?h1 ?h2 ?h3) ?d ?u ?_; (case B => k_asm); (case F => k_asm); (case X => k_asm); (case N => k_asm); (case T => k_asm); (case K => first | exact rfl | assumption); (case h1 => first | assumption | exact IsData.mono (by assumption) (by first | exact fun _ h => h | (intro p hp; kcf_m))); (case h3 => assumption); (case h2 => assumption); (case d => ktr_room); (case u => ktr_units); k_whole); (intro v' nx' h' tk' O' F' N'; (obtain ⟨e1, t1, e2⟩ := O'); subst nx'; subst e2); ((try k_sweep); (try dsimp only); (try k_fold))))
theorem decimal_value_c (w : World) (news : Led) (l x : Addr) (ns : List Int) (z : Int) (hl : TL news l ns) (hx : IsD w news x) (hA : ∀ c ∈ ns, c ∈ Alpha) (hn : ns.length < 100) (h0 : 0 < ns.length) (hz : ∀ c ∈ ns, zof c = some z) :
    Spec w 110 [.ref l, .ref x] 6 news (fun v nx => nx = news ∧ ∃ t, v = .int (decV ns) t) := by
  intro mean mg mb dp un gd cn cs a ccd cl outer A₀ base h₀ L m s Q E B F X N T hk hd hu ret
  have hne : ns ≠ [] := by intro e; rw [e] at h0; simp at h0
  have hz0 := hz _ (getD_zero_mem h0)
  have hA0 := hA _ (getD_zero_mem h0)
  refine wpAny_call ?_
  k_dflt ktr_enter
  rename Fr _ _ _ _ => F0
  have F1 : Fr _ _ _ (fun y => List.lookup y [(Str.ofString "data", Value.ref x), (Str.ofString "text", Value.ref l)]) := F0
  clear F0
  k_steps
  unfold Hold
  rename Fr _ _ _ _ => lF'
  rename News _ _ _ _ => lN'
  k_dflt (refine for_tl (σ := Int × Tok) news (fun c => [(Str.ofString "found", .int c.1 c.2)]) [Str.ofString "value"] (fun pre c => c.1 = decV pre) (0, _) rfl hl lF' lN' (by first | exact fun _ h => h | (intro p hp; kcf_m)) (List.forall_mem_cons.mpr ⟨rfl, List.forall_mem_nil _⟩) rfl ?_ ?_)
  · rintro ⟨f, tf⟩ pre post n t u h tk own e hm p1 F' N'
    dsimp only at p1 F' ⊢
    simp only [kstB] at F'
    clear lF' lN'
    have hzn := hz n hm
    have hAn := hA n hm
    (try k_unmd); (try k_fold)
    k_steps
    unfold Hold
    refine fend (_, _) (by assumption) (by assumption) (fun p hp => List.mem_append.mpr (.inl hp)) (fun p hp => List.mem_append.mpr (.inr hp)) (List.forall_mem_cons.mpr ⟨rfl, List.forall_mem_nil _⟩) (by kst_same) ?_
    dsimp only
    rw [decV_snoc, val_of hzn, p1]
  · rintro ⟨f, tf⟩ u h tk p1 F' N'
    dsimp only at p1 F' ⊢
    simp only [kstB] at F'
    clear lF' lN'
    (try k_unmd); (try k_fold)
    k_steps
    exact ret _ _ _ _ ⟨rfl, _, by rw [p1]⟩ (by assumption) (by assumption)
end
local macro_rules | `(tactic| walk_at "mine pad15") => `(tactic| skip)
local macro_rules | `(tactic| walk_at "mine pad16") => `(tactic| skip)
local macro_rules | `(tactic| walk_at "mine pad17") => `(tactic| skip)
local macro_rules | `(tactic| walk_at "mine pad18") => `(tactic| skip)
local macro_rules | `(tactic| walk_at "mine pad19") => `(tactic| skip)
--@M
local macro_rules | `(tactic| walk_at "call ref cons nil") => `(tactic| (k_here; (with_reducible show wpAny _ _ (call (Value.ref 110) _ _) _ _ _); k_dflt (refine' Spec.use ?B ?F ?X ?N ?T ?K (decimal_value_c _ _ _ _ _ _ ?hl ?h1 ?h2 ?h3 ?h4 ?h5) ?d ?u ?_; (case B => k_asm); (case F => k_asm); (case X => k_asm); (case N => k_asm); (case T => k_asm); (case K => first | exact rfl | assumption); (case hl => ktr_rel); (case h1 => first | assumption | exact IsData.mono (by assumption) (by first | exact fun _ h => h | (intro p hp; kcf_m))); (case h2 => assumption); (case h3 => first | assumption | omega); (case h4 => first | assumption | omega); (case h5 => assumption); (case d => ktr_room); (case u => ktr_units); k_whole); (intro v' nx' h' tk' O' F' N'; (obtain ⟨e1, t1, e2⟩ := O'); subst nx'; subst e2); ((try k_sweep); (try dsimp only); (try k_fold))))
--@E
theorem unit_e2_runend : True := by
  w_top off
  trivial
/-! ## number_run_end -/
def rlen (z : Int) : List Int → Nat
  | [] => 0
  | c :: r => if zof c = some z then rlen z r + 1 else 0
def runLen : List Int → Nat
  | [] => 0
  | c :: r => match zof c with
    | some z => rlen z (c :: r)
    | none => 0
theorem drop_at {ns : List Int} {e : Int} (h0 : 0 ≤ e) (h : e < (ns.length : Int)) : ns.drop e.toNat = ns.getD e.toNat 0 :: ns.drop (e + 1).toNat := by
  have hlt : e.toNat < ns.length := by omega
  rw [List.drop_eq_getElem_cons hlt]
  have e1 : ns.getD e.toNat 0 = ns[e.toNat] := by simp [List.getD, hlt]
  rw [e1, show (e + 1).toNat = e.toNat + 1 by omega]
theorem rlen_step {ns : List Int} {e z : Int} (h0 : 0 ≤ e) (h : e < (ns.length : Int)) (hz : zof (ns.getD e.toNat 0) = some z) : rlen z (ns.drop e.toNat) = rlen z (ns.drop (e + 1).toNat) + 1 := by
  rw [drop_at h0 h, rlen, if_pos hz]
theorem rlen_stop {ns : List Int} {e z : Int} (h0 : 0 ≤ e) (h : e < (ns.length : Int)) (hz : zof (ns.getD e.toNat 0) ≠ some z) : rlen z (ns.drop e.toNat) = 0 := by
  rw [drop_at h0 h, rlen, if_neg hz]
theorem rlen_end {ns : List Int} {e z : Int} (h : (ns.length : Int) ≤ e) : rlen z (ns.drop e.toNat) = 0 := by
  rw [List.drop_of_length_le (by omega)]; rfl
theorem rlen_le (z : Int) : ∀ ns : List Int, rlen z ns ≤ ns.length
  | [] => Nat.le_refl _
  | c :: r => by
    rw [rlen]
    split
    · have := rlen_le z r; simp only [List.length_cons]; omega
    · exact Nat.zero_le _
theorem runLen_some {ns : List Int} {e z : Int} (h0 : 0 ≤ e) (h : e < (ns.length : Int)) (hz : zof (ns.getD e.toNat 0) = some z) : runLen (ns.drop e.toNat) = rlen z (ns.drop e.toNat) := by
  rw [drop_at h0 h, runLen, hz]
theorem runLen_none {ns : List Int} {e : Int} (h0 : 0 ≤ e) (h : e < (ns.length : Int)) (hz : zof (ns.getD e.toNat 0) = none) : runLen (ns.drop e.toNat) = 0 := by
  rw [drop_at h0 h, runLen, hz]
theorem runLen_end {ns : List Int} {e : Int} (h : (ns.length : Int) ≤ e) : runLen (ns.drop e.toNat) = 0 := by
  rw [List.drop_of_length_le (by omega)]; rfl
theorem number_run_end_c (w : World) (news : Led) (l x : Addr) (ns : List Int) (i : Int) (ti : Tok) (hl : TL news l ns) (hx : IsD w news x) (hA : ∀ c ∈ ns, c ∈ Alpha) (hn : ns.length < 100) (h0 : 0 ≤ i) (h1 : i < 200) :
    Spec w 166 [.ref l, .int i ti, .ref x] 6 news (fun v nx => nx = news ∧ ∃ t, v = .int (i + (runLen (ns.drop i.toNat) : Nat)) t) := by
  intro mean mg mb dp un gd cn cs a ccd cl outer A₀ base h₀ L m s Q E B F X N T hk hd hu ret
  refine wpAny_call ?_
  k_dflt ktr_enter
  rename Fr _ _ _ _ => F0
  have F1 : Fr _ _ _ (fun y => List.lookup y [(Str.ofString "data", Value.ref x), (Str.ofString "at", Value.int i ti), (Str.ofString "text", Value.ref l)]) := F0
  clear F0
  k_steps
  · exact ret _ _ _ _ ⟨rfl, ti, by rw [runLen_end (by omega)]; simp⟩ (by assumption) (by assumption)
  · rename zof _ = none => q1
    exact ret _ _ _ _ ⟨rfl, ti, by rw [runLen_none h0 (by omega) q1]; simp⟩ (by assumption) (by assumption)
  · exfalso
    rename zof _ = none => q1
    rename zof _ = some _ => q2
    rw [q2] at q1; cases q1
  · rename zof _ = some _ => q1
    rename Int => z
    have q2 := runLen_some h0 (by omega) q1
    unfold Hold
    rename Fr _ _ _ _ => lF'
    rename News _ _ _ _ => lN'
    k_dflt (refine ksw_while (σ := Int × Tok) (fun _ => news) (fun c => [(Str.ofString "end", .int c.1 c.2)]) (fun _ => True) [] (fun c => i + 1 ≤ c.1 ∧ c.1 ≤ ns.length ∧ i + (rlen z (ns.drop i.toNat) : Nat) = c.1 + (rlen z (ns.drop c.1.toNat) : Nat)) (fun c => ((ns.length : Int) - c.1).toNat) (i + 1, _) lF' (cb_drop lN' (by first | exact fun _ h => h | (intro p hp; kcf_m))) trivial (List.forall_mem_cons.mpr ⟨rfl, List.forall_mem_nil _⟩) ⟨Int.le_refl _, by dsimp only; omega, by dsimp only; rw [rlen_step h0 (by omega) q1]; omega⟩ ?_)
    rintro ⟨e, te⟩ u h tk - ⟨p1, p2, p3⟩ F' N'
    dsimp only at p1 p2 p3 F' ⊢
    simp only [kstB, List.contains_nil, Bool.false_eq_true, if_false] at F'
    clear lF' lN'
    (try k_unmd); (try k_fold)
    k_steps
    all_goals (try unfold Hold)
    · rename zof (ns.getD e.toNat 0) = none => q3
      have q4 := rlen_stop (ns := ns) (e := e) (z := z) (by omega) (by omega) (by rw [q3]; exact fun h => nomatch h)
      exact ret _ _ _ _ ⟨rfl, te, by rw [q2, p3, q4]; simp⟩ (by assumption) (by assumption)
    · rename zof (ns.getD e.toNat 0) = some _ => q3
      rename _ = z => q5
      rw [q5] at q3
      have q4 := rlen_step (by omega) (by omega) q3
      refine ksw_end (_, _) (by assumption) (by assumption) (fun _ h => h) trivial (List.forall_mem_cons.mpr ⟨rfl, List.forall_mem_nil _⟩) (by ksw_same) ?_ ?_
      · dsimp only; refine ⟨by omega, by omega, ?_⟩; rw [p3, q4]; omega
      · dsimp only; omega
    · rename zof (ns.getD e.toNat 0) = some _ => q3
      rename ¬ _ = z => q5
      have q4 := rlen_stop (ns := ns) (e := e) (z := z) (by omega) (by omega) (by rw [q3]; exact fun h => q5 (Option.some.inj h))
      exact ret _ _ _ _ ⟨rfl, te, by rw [q2, p3, q4]; simp⟩ (by assumption) (by assumption)
    · have q4 := rlen_end (ns := ns) (e := e) (z := z) (by omega)
      exact ret _ _ _ _ ⟨rfl, te, by rw [q2, p3, q4]; simp⟩ (by assumption) (by assumption)
--@M
local macro_rules | `(tactic| walk_at "call ref cons nil") => `(tactic| (k_here; (with_reducible show wpAny _ _ (call (Value.ref 166) _ _) _ _ _); k_dflt (refine' Spec.use ?B ?F ?X ?N ?T ?K (number_run_end_c _ _ _ _ _ _ _ ?hl ?h1 ?h2 ?h3 ?h4 ?h5) ?d ?u ?_; (case B => k_asm); (case F => k_asm); (case X => k_asm); (case N => k_asm); (case T => k_asm); (case K => first | exact rfl | assumption); (case hl => ktr_rel); (case h1 => first | assumption | exact IsData.mono (by assumption) (by first | exact fun _ h => h | (intro p hp; kcf_m))); (case h2 => assumption); (case h3 => first | assumption | omega); (case h4 => first | assumption | omega); (case h5 => first | assumption | omega); (case d => ktr_room); (case u => ktr_units); k_whole); (intro v' nx' h' tk' O' F' N'; (obtain ⟨e1, t1, e2⟩ := O'); subst nx'; subst e2); ((try k_sweep); (try dsimp only); (try k_fold))))
--@E
theorem unit_e3_numend : True := by
  w_top off
  trivial
/-! ## number_end -/
theorem slice_run {vs : List Value} {ns : List Int} {x y : Int} (hi : IntsAre vs ns) (h : 0 ≤ x) (h2 : 0 ≤ y) : IntsAre (slicePick vs.toArray (some x) (some y) none).toList ((ns.drop x.toNat).take (y.toNat - x.toNat)) := by
  have q := kmk_run hi h h2
  have e : (ns.drop x.toNat).take (min y.toNat ns.length - x.toNat) = (ns.drop x.toNat).take (y.toNat - x.toNat) := by
    by_cases hy : y.toNat ≤ ns.length
    · rw [Nat.min_eq_left hy]
    · rw [Nat.min_eq_right (by omega), List.take_of_length_le (by rw [List.length_drop]; exact Nat.le_refl _), List.take_of_length_le (by rw [List.length_drop]; omega)]
  rw [e] at q; exact q
--@M
local macro_rules | `(tactic| walk_at "subscriptTail Name Slice ref ref") => `(tactic| (k_here; (with_reducible show wpAny _ _ (subscriptTail _ (PySem.Expr.Slice (some _) (some _) none _) _ _) _ _ _); k_dflt (refine' tl_slice ?F ?N ?t ?p ?q ?m ?z ?_ ?s ?y; (case F => k_asm); (case N => k_asm); (case t => ktr_rel); (case p => kmk_part); (case q => kmk_part); (case m => exact fun _ hi9 => slice_run hi9 (by omega) (by omega)); (case z => first | assumption | omega); (case s => with_unfolding_all rfl); (case y => kmk_pure)); intro D' o' h' F' N' l1 t1; (try k_lt l1); (try k_sweep)))
local macro_rules | `(tactic| walk_at "subscriptTail Name Slice ref ref") => `(tactic| (k_here; (with_reducible show wpAny _ _ (subscriptTail _ (PySem.Expr.Slice (some _) none none _) _ _) _ _ _); k_dflt (refine' tl_slice ?F ?N ?t ?p ?q ?m ?z ?_ ?s ?y; (case F => k_asm); (case N => k_asm); (case t => ktr_rel); (case p => kmk_part); (case q => kmk_part); (case m => exact fun _ hi9 => kmk_from hi9 (by omega)); (case z => first | assumption | omega); (case s => with_unfolding_all rfl); (case y => kmk_pure)); intro D' o' h' F' N' l1 t1; (try k_lt l1); (try k_sweep)))
local macro_rules | `(tactic| walk_at "subscriptTail Name Slice ref ref") => `(tactic| (k_here; (with_reducible show wpAny _ _ (subscriptTail _ (PySem.Expr.Slice none (some _) none _) _ _) _ _ _); k_dflt (refine' tl_slice ?F ?N ?t ?p ?q ?m ?z ?_ ?s ?y; (case F => k_asm); (case N => k_asm); (case t => ktr_rel); (case p => kmk_part); (case q => kmk_part); (case m => first | exact fun _ hi9 => kmk_upto hi9 (by omega) | exact fun _ hi9 => kmk_upto_neg hi9 (by omega)); (case z => first | assumption | omega); (case s => with_unfolding_all rfl); (case y => kmk_pure)); intro D' o' h' F' N' l1 t1; (try k_lt l1); (try k_sweep)))
--@E
/-- how many codes the number at a list's head takes -/
def numLen (s : List Int) : Nat :=
  if runLen s = 0 then (match s with | c :: _ => if (sgn c).isSome then 1 else 0 | [] => 0)
  else match s.drop (runLen s) with
    | [] => runLen s
    | d :: t => match sgn d with
      | some p => if 0 < p.1 ∧ p.1 < p.2 then runLen s + 1 else runLen s
      | none => if d = 8260 ∧ 0 < runLen t ∧ t.head?.bind zof = s.head?.bind zof ∧ decV (t.take (runLen t)) ≠ 0 then runLen s + 1 + runLen t else runLen s
theorem sgn_zof {c : Int} {p : Int × Int} (h : sgn c = some p) : zof c = none := by
  unfold sgn at h
  (repeat' split at h) <;> first | (rename c = _ => e; subst e; rfl) | cases h
theorem isSign_iff {ns : List Int} {i : Int} (hi : i < (ns.length : Int)) : isSign ns i = (sgn (ns.getD i.toNat 0)).isSome := by
  unfold isSign
  rw [decide_eq_true hi]
  cases h : sgn (ns.getD i.toNat 0) with
  | none => simp
  | some p => rw [sgn_zof h]; rfl
theorem rlen_all (z : Int) : ∀ s : List Int, ∀ c ∈ s.take (rlen z s), zof c = some z
  | [], c, h => by simp [rlen] at h
  | d :: r, c, h => by
    rw [rlen] at h
    split at h
    · rw [List.take_succ_cons] at h
      rcases List.mem_cons.mp h with rfl | h
      · assumption
      · exact rlen_all z r c h
    · simp at h
theorem run_all {s : List Int} (h : 0 < runLen s) : ∃ z, s.head?.bind zof = some z ∧ ∀ c ∈ s.take (runLen s), zof c = some z := by
  cases s with
  | nil => simp [runLen] at h
  | cons c r =>
    rw [runLen] at h
    cases hz : zof c with
    | none => rw [hz] at h; simp at h
    | some z =>
      refine ⟨z, by simp [hz], ?_⟩
      rw [runLen, hz]
      exact rlen_all z (c :: r)
theorem run_slice {ns : List Int} {x : Int} (h0 : 0 ≤ x) (hp : 0 < runLen (ns.drop x.toNat)) : ∃ z, ∀ c ∈ (ns.drop x.toNat).take ((x + (runLen (ns.drop x.toNat) : Nat)).toNat - x.toNat), zof c = some z := by
  obtain ⟨z, _, h⟩ := run_all hp
  refine ⟨z, ?_⟩
  rw [show (x + (runLen (ns.drop x.toNat) : Nat)).toNat - x.toNat = runLen (ns.drop x.toNat) by omega]
  exact h
theorem decimal_value_e (w : World) (news : Led) (l x : Addr) (ns : List Int) (hl : TL news l ns) (hx : IsD w news x) (hA : ∀ c ∈ ns, c ∈ Alpha) (hn : ns.length < 100) (h0 : 0 < ns.length) (hz : ∃ z, ∀ c ∈ ns, zof c = some z) :
    Spec w 110 [.ref l, .ref x] 6 news (fun v nx => nx = news ∧ ∃ t, v = .int (decV ns) t) :=
  let ⟨z, h⟩ := hz; decimal_value_c w news l x ns z hl hx hA hn h0 h
theorem runLen_le : ∀ s : List Int, runLen s ≤ s.length
  | [] => Nat.le_refl _
  | c :: r => by
    rw [runLen]
    split
    · exact rlen_le _ _
    · exact Nat.zero_le _
theorem alpha_slice {ns : List Int} {a b : Nat} (hA : ∀ c ∈ ns, c ∈ Alpha) : ∀ c ∈ (ns.drop a).take b, c ∈ Alpha := fun c hc => hA c (List.mem_of_mem_drop (List.mem_of_mem_take hc))
theorem run_no {ns : List Int} {x : Int} (h0 : 0 ≤ x) (h : zof (ns.getD x.toNat 0) = none) (hp : 0 < runLen (ns.drop x.toNat)) : False := by
  by_cases hx : x < (ns.length : Int)
  · rw [runLen_none h0 hx h] at hp; omega
  · rw [runLen_end (by omega)] at hp; omega
theorem numeric_value_k (w : World) (news : Led) (x : Addr) (c : Int) (p : Int × Int) (tc : Tok) (hx : IsD w news x) (hc : c ∈ Alpha) (hs : sgn c = some p) :
    Spec w 82 [.int c tc, .ref x] 4 news (fun v nx => ∃ T u1 u2, v = .ref T ∧ nx = (T, tup2 p.1 u1 p.2 u2) :: news ∧ ∀ p ∈ news, p.1 < T) := by
  have e : nvOf c = some p := by unfold nvOf; rw [sgn_zof hs]; exact hs
  refine (numeric_value_c w news x c tc hx hc).mono ?_
  rintro v nx (⟨h, _⟩ | ⟨q, T, u1, u2, h, e2, e1, l⟩)
  · rw [e] at h; cases h
  · rw [e] at h; cases h; exact ⟨T, u1, u2, e2, e1, l⟩
theorem drop_run {ns : List Int} {i : Int} {k : Nat} (h0 : 0 ≤ i) : (ns.drop i.toNat).drop k = ns.drop (i + (k : Nat)).toNat := by
  rw [List.drop_drop]; congr 1; omega
theorem nl0_yes {ns : List Int} {i : Int} {p : Int × Int} (h0 : 0 ≤ i) (hi : i < (ns.length : Int)) (hk : runLen (ns.drop i.toNat) = 0) (hs : sgn (ns.getD i.toNat 0) = some p) : numLen (ns.drop i.toNat) = 1 := by
  unfold numLen; rw [if_pos hk, drop_at h0 hi]; simp only [hs, Option.isSome_some, if_true]
theorem nl0_no {ns : List Int} {i : Int} (h0 : 0 ≤ i) (hi : i < (ns.length : Int)) (hk : runLen (ns.drop i.toNat) = 0) (hs : sgn (ns.getD i.toNat 0) = none ∨ (zof (ns.getD i.toNat 0)).isSome = true) : numLen (ns.drop i.toNat) = 0 := by
  have hs : sgn (ns.getD i.toNat 0) = none := by
    rcases hs with h | h
    · exact h
    · obtain ⟨z, hz⟩ := Option.isSome_iff_exists.mp h
      rw [runLen_some h0 hi hz, rlen_step h0 hi hz] at hk
      omega
  unfold numLen; rw [if_pos hk, drop_at h0 hi]; simp only [hs, Option.isSome_none, Bool.false_eq_true, if_false]
theorem nl_end {ns : List Int} {i : Int} (h0 : 0 ≤ i) (hk : runLen (ns.drop i.toNat) ≠ 0) (he : (ns.length : Int) ≤ i + (runLen (ns.drop i.toNat) : Nat)) : numLen (ns.drop i.toNat) = runLen (ns.drop i.toNat) := by
  unfold numLen; rw [if_neg hk, drop_run h0, List.drop_of_length_le (by omega)]
theorem nl_sgn {ns : List Int} {i : Int} {p : Int × Int} (h0 : 0 ≤ i) (hk : runLen (ns.drop i.toNat) ≠ 0) (he : i + (runLen (ns.drop i.toNat) : Nat) < (ns.length : Int)) (hs : sgn (ns.getD (i + (runLen (ns.drop i.toNat) : Nat)).toNat 0) = some p) :
    numLen (ns.drop i.toNat) = if 0 < p.1 ∧ p.1 < p.2 then runLen (ns.drop i.toNat) + 1 else runLen (ns.drop i.toNat) := by
  unfold numLen; rw [if_neg hk, drop_run h0, drop_at (by omega) he]; simp only [hs]
theorem nl_not {ns : List Int} {i : Int} (h0 : 0 ≤ i) (hk : runLen (ns.drop i.toNat) ≠ 0) (he : i + (runLen (ns.drop i.toNat) : Nat) < (ns.length : Int)) (hs : sgn (ns.getD (i + (runLen (ns.drop i.toNat) : Nat)).toNat 0) = none) :
    numLen (ns.drop i.toNat) = if ns.getD (i + (runLen (ns.drop i.toNat) : Nat)).toNat 0 = 8260 ∧ 0 < runLen (ns.drop (i + (runLen (ns.drop i.toNat) : Nat) + 1).toNat) ∧ (ns.drop (i + (runLen (ns.drop i.toNat) : Nat) + 1).toNat).head?.bind zof = (ns.drop i.toNat).head?.bind zof ∧ decV ((ns.drop (i + (runLen (ns.drop i.toNat) : Nat) + 1).toNat).take (runLen (ns.drop (i + (runLen (ns.drop i.toNat) : Nat) + 1).toNat))) ≠ 0 then runLen (ns.drop i.toNat) + 1 + runLen (ns.drop (i + (runLen (ns.drop i.toNat) : Nat) + 1).toNat) else runLen (ns.drop i.toNat) := by
  conv => lhs; unfold numLen
  rw [if_neg hk, drop_run h0, drop_at (by omega) he]; simp only [hs]
theorem take_slash {ns : List Int} {e : Int} (h0 : 0 ≤ e) : (ns.drop e.toNat).take ((e + 1).toNat - e.toNat) = [8260] ↔ e < (ns.length : Int) ∧ ns.getD e.toNat 0 = 8260 := by
  rw [show (e + 1).toNat - e.toNat = 1 by omega]
  by_cases h : e < (ns.length : Int)
  · rw [drop_at h0 h]; simp [h]
  · rw [List.drop_of_length_le (by omega)]; simp [h]
theorem sgn_slash {c : Int} (h : c = 8260) : sgn c = none := by subst h; rfl
theorem nl_other {ns : List Int} {i : Int} (h0 : 0 ≤ i) (hk : runLen (ns.drop i.toNat) ≠ 0) (hs : i + (runLen (ns.drop i.toNat) : Nat) < (ns.length : Int) → sgn (ns.getD (i + (runLen (ns.drop i.toNat) : Nat)).toNat 0) = none ∨ (zof (ns.getD (i + (runLen (ns.drop i.toNat) : Nat)).toNat 0)).isSome = true)
    (hn : ¬ (ns.drop (i + (runLen (ns.drop i.toNat) : Nat)).toNat).take ((i + (runLen (ns.drop i.toNat) : Nat) + 1).toNat - (i + (runLen (ns.drop i.toNat) : Nat)).toNat) = [8260]) : numLen (ns.drop i.toNat) = runLen (ns.drop i.toNat) := by
  rw [take_slash (by omega)] at hn
  by_cases he : i + (runLen (ns.drop i.toNat) : Nat) < (ns.length : Int)
  · have hs' : sgn (ns.getD (i + (runLen (ns.drop i.toNat) : Nat)).toNat 0) = none := by
      rcases hs he with h | h
      · exact h
      · cases hq : sgn (ns.getD (i + (runLen (ns.drop i.toNat) : Nat)).toNat 0) with
        | none => rfl
        | some p => rw [sgn_zof hq] at h; cases h
    rw [nl_not h0 hk he hs', if_neg]
    intro h; exact hn ⟨he, h.1⟩
  · exact nl_end h0 hk (by omega)
theorem head_zof {ns : List Int} {e z : Int} (h0 : 0 ≤ e) (h : zof (ns.getD e.toNat 0) = some z) : (ns.drop e.toNat).head?.bind zof = some z := by
  by_cases he : e < (ns.length : Int)
  · rw [drop_at h0 he]; simpa using h
  · have : ns.getD e.toNat 0 = 0 := by simp [List.getD, List.getElem?_eq_none (show ns.length ≤ e.toNat by omega)]
    rw [this] at h; cases h
section
local macro_rules | `(tactic| walk_at "call ref cons nil") => `(tactic| (k_here; (with_reducible show wpAny _ _ (call (Value.ref 75) _ _) _ _ _); k_dflt (refine' Spec.use ?B ?F ?X ?N ?T ?K (zero_of_c _ _ _ _ _ ?h1 ?h2) ?d ?u ?_; (case B => k_asm); (case F => k_asm); (case X => k_asm); (case N => k_asm); (case T => k_asm); (case K => first | exact rfl | assumption); (case h1 => first | assumption | exact IsData.mono (by assumption) (by first | exact fun _ h => h | (intro p hp; kcf_m))); (case h2 => first | assumption | exact at_alpha (by assumption) (by omega) (by omega)); (case d => ktr_room); (case u => ktr_units); k_whole); (intro v' nx' h' tk' O' F' N'; (obtain ⟨e1, o1⟩ := O'); subst nx'; (rcases o1 with ⟨z1, e2⟩ | ⟨d1, t1, z1, e2⟩) <;> subst e2) <;> (first | exact (run_no (by omega) z1 (by omega)).elim | ((try k_sweep); (try dsimp only); (try k_fold)))))
local macro_rules | `(tactic| walk_at "call ref cons nil") => `(tactic| (k_here; (with_reducible show wpAny _ _ (call (Value.ref 82) _ _) _ _ _); k_dflt (refine' Spec.use ?B ?F ?X ?N ?T ?K (numeric_value_k _ _ _ _ _ _ ?h1 ?h2 ?h3) ?d ?u ?_; (case B => k_asm); (case F => k_asm); (case X => k_asm); (case N => k_asm); (case T => k_asm); (case K => first | exact rfl | assumption); (case h1 => first | assumption | exact IsData.mono (by assumption) (by first | exact fun _ h => h | (intro p hp; kcf_m))); (case h2 => first | assumption | exact at_alpha (by assumption) (by omega) (by omega)); (case h3 => assumption); (case d => ktr_room); (case u => ktr_units); k_whole); (intro v' nx' h' tk' O' F' N'; (obtain ⟨T1, u1, u2, e2, e1, l1⟩ := O'); subst nx'; subst e2); ((try k_lt l1); (try k_sweep); (try dsimp only); (try k_fold))))
local macro_rules | `(tactic| walk_at "call ref cons nil") => `(tactic| (k_here; (with_reducible show wpAny _ _ (call (Value.ref 110) _ _) _ _ _); k_dflt (refine' Spec.use ?B ?F ?X ?N ?T ?K (decimal_value_e _ _ _ _ _ ?hl ?h1 ?h2 ?h3 ?h4 ?h5) ?d ?u ?_; (case B => k_asm); (case F => k_asm); (case X => k_asm); (case N => k_asm); (case T => k_asm); (case K => first | exact rfl | assumption); (case hl => ktr_rel); (case h1 => first | assumption | exact IsData.mono (by assumption) (by first | exact fun _ h => h | (intro p hp; kcf_m))); (case h2 => exact alpha_slice (by assumption)); (case h3 => (rw [List.length_take, List.length_drop]; omega)); (case h4 => (rw [List.length_take, List.length_drop]; omega)); (case h5 => exact run_slice (by omega) (by omega)); (case d => ktr_room); (case u => ktr_units); k_whole); (intro v' nx' h' tk' O' F' N'; (obtain ⟨e1, t1, e2⟩ := O'); subst nx'; subst e2); ((try k_sweep); (try dsimp only); (try k_fold))))
theorem number_end_c (w : World) (news : Led) (l x : Addr) (ns : List Int) (i : Int) (ti : Tok) (hl : TL news l ns) (hx : IsD w news x) (hA : ∀ c ∈ ns, c ∈ Alpha) (hn : ns.length < 100) (h0 : 0 ≤ i) (h1 : i < (ns.length : Int)) :
    Spec w 173 [.ref l, .int i ti, .ref x] 7 news (fun v nx => nx = news ∧ ∃ t, v = .int (i + (numLen (ns.drop i.toNat) : Nat)) t) := by
  intro mean mg mb dp un gd cn cs a ccd cl outer A₀ base h₀ L m s Q E B F X N T hk hd hu ret
  have hrl := runLen_le (ns.drop i.toNat)
  rw [List.length_drop] at hrl
  have hrl2 := runLen_le (ns.drop (i + (runLen (ns.drop i.toNat) : Nat) + 1).toNat)
  rw [List.length_drop] at hrl2
  refine wpAny_call ?_
  k_dflt ktr_enter
  rename Fr _ _ _ _ => F0
  have F1 : Fr _ _ _ (fun y => List.lookup y [(Str.ofString "data", Value.ref x), (Str.ofString "at", Value.int i ti), (Str.ofString "text", Value.ref l)]) := F0
  clear F0
  k_steps
  · rename sgn _ = some _ => q1
    have hk0 : runLen (ns.drop i.toNat) = 0 := by omega
    have q2 := nl0_yes h0 h1 hk0 q1
    exact ret _ _ _ _ ⟨rfl, _, by rw [q2]; rfl⟩ (by assumption) (by first | assumption | exact cb_drop (by assumption) (by first | exact fun _ h => h | (intro p hp; kcf_m)))
  · have hk0 : runLen (ns.drop i.toNat) = 0 := by omega
    rename _ → _ ∨ _ => q1
    have q2 := nl0_no h0 h1 hk0 (q1 h1)
    exact ret _ _ _ _ ⟨rfl, ti, by rw [q2]; simp⟩ (by assumption) (by first | assumption | exact cb_drop (by assumption) (by first | exact fun _ h => h | (intro p hp; kcf_m)))
  all_goals (have hk1 : runLen (ns.drop i.toNat) ≠ 0 := by omega)
  · rename sgn _ = some _ => q1
    have q2 := nl_sgn h0 hk1 (by omega) q1
    rw [if_pos ⟨by assumption, by assumption⟩] at q2
    exact ret _ _ _ _ ⟨rfl, _, by rw [q2, Int.natCast_succ, Int.add_assoc]⟩ (by assumption) (by first | assumption | exact cb_drop (by assumption) (by first | exact fun _ h => h | (intro p hp; kcf_m)))
  · rename sgn _ = some _ => q1
    have q2 := nl_sgn h0 hk1 (by omega) q1
    rw [if_neg (by omega)] at q2
    exact ret _ _ _ _ ⟨rfl, _, by rw [q2]⟩ (by assumption) (by first | assumption | exact cb_drop (by assumption) (by first | exact fun _ h => h | (intro p hp; kcf_m)))
  · rename sgn _ = some _ => q1
    have q2 := nl_sgn h0 hk1 (by omega) q1
    rw [if_neg (by omega)] at q2
    exact ret _ _ _ _ ⟨rfl, _, by rw [q2]⟩ (by assumption) (by first | assumption | exact cb_drop (by assumption) (by first | exact fun _ h => h | (intro p hp; kcf_m)))
  · rename zof (ns.getD i.toNat 0) = some _ => q3
    rename zof (ns.getD (Int.toNat (_ + 1)) 0) = some _ => q4
    rename _ = (_ : Int) => q5
    rename decV _ ≠ 0 => q6
    subst q5
    have q0 := (take_slash (ns := ns) (e := i + (runLen (ns.drop i.toNat) : Nat)) (by omega)).mp (by assumption)
    have q2 := nl_not h0 hk1 q0.1 (sgn_slash q0.2)
    rw [show (i + ((runLen (ns.drop i.toNat) : Nat) : Int) + 1 + ((runLen (ns.drop (i + (runLen (ns.drop i.toNat) : Nat) + 1).toNat) : Nat) : Int)).toNat - (i + ((runLen (ns.drop i.toNat) : Nat) : Int) + 1).toNat = runLen (ns.drop (i + (runLen (ns.drop i.toNat) : Nat) + 1).toNat) by omega] at q6
    rw [if_pos ⟨q0.2, by omega, by rw [head_zof (by omega) q4, head_zof h0 q3], q6⟩] at q2
    exact ret _ _ _ _ ⟨rfl, _, congrArg (fun q => Value.int q _) (by omega)⟩ (by assumption) (by first | assumption | exact cb_drop (by assumption) (by first | exact fun _ h => h | (intro p hp; kcf_m)))
  · rename decV _ = 0 => q6
    have q0 := (take_slash (ns := ns) (e := i + (runLen (ns.drop i.toNat) : Nat)) (by omega)).mp (by assumption)
    have q2 := nl_not h0 hk1 q0.1 (sgn_slash q0.2)
    rw [show (i + ((runLen (ns.drop i.toNat) : Nat) : Int) + 1 + ((runLen (ns.drop (i + (runLen (ns.drop i.toNat) : Nat) + 1).toNat) : Nat) : Int)).toNat - (i + ((runLen (ns.drop i.toNat) : Nat) : Int) + 1).toNat = runLen (ns.drop (i + (runLen (ns.drop i.toNat) : Nat) + 1).toNat) by omega] at q6
    rw [if_neg (fun h => h.2.2.2 q6)] at q2
    exact ret _ _ _ _ ⟨rfl, _, by rw [q2]⟩ (by assumption) (by first | assumption | exact cb_drop (by assumption) (by first | exact fun _ h => h | (intro p hp; kcf_m)))
  · rename zof (ns.getD i.toNat 0) = some _ => q3
    rename zof (ns.getD (Int.toNat (_ + 1)) 0) = some _ => q4
    rename (_ : Int) ≠ _ => q5
    have q0 := (take_slash (ns := ns) (e := i + (runLen (ns.drop i.toNat) : Nat)) (by omega)).mp (by assumption)
    have q2 := nl_not h0 hk1 q0.1 (sgn_slash q0.2)
    rw [if_neg (fun h => q5 (by have := h.2.2.1; rw [head_zof (by omega) q4, head_zof h0 q3] at this; exact Option.some.inj this))] at q2
    exact ret _ _ _ _ ⟨rfl, _, by rw [q2]⟩ (by assumption) (by first | assumption | exact cb_drop (by assumption) (by first | exact fun _ h => h | (intro p hp; kcf_m)))
  · have q0 := (take_slash (ns := ns) (e := i + (runLen (ns.drop i.toNat) : Nat)) (by omega)).mp (by assumption)
    have q2 := nl_not h0 hk1 q0.1 (sgn_slash q0.2)
    rw [if_neg (fun h => by have := h.2.1; omega)] at q2
    exact ret _ _ _ _ ⟨rfl, _, by rw [q2]⟩ (by assumption) (by first | assumption | exact cb_drop (by assumption) (by first | exact fun _ h => h | (intro p hp; kcf_m)))
  · rename _ → _ ∨ _ => q1
    have q2 := nl_other h0 hk1 q1 (by assumption)
    exact ret _ _ _ _ ⟨rfl, _, by rw [q2]⟩ (by assumption) (by first | assumption | exact cb_drop (by assumption) (by first | exact fun _ h => h | (intro p hp; kcf_m)))
end
local macro_rules | `(tactic| walk_at "mine pad20") => `(tactic| skip)
local macro_rules | `(tactic| walk_at "mine pad21") => `(tactic| skip)
local macro_rules | `(tactic| walk_at "mine pad22") => `(tactic| skip)
local macro_rules | `(tactic| walk_at "mine pad23") => `(tactic| skip)
--@M
local macro_rules | `(tactic| walk_at "call ref cons nil") => `(tactic| (k_here; (with_reducible show wpAny _ _ (call (Value.ref 173) _ _) _ _ _); k_dflt (refine' Spec.use ?B ?F ?X ?N ?T ?K (number_end_c _ _ _ _ _ _ _ ?hl ?h1 ?h2 ?h3 ?h4 ?h5) ?d ?u ?_; (case B => k_asm); (case F => k_asm); (case X => k_asm); (case N => k_asm); (case T => k_asm); (case K => first | exact rfl | assumption); (case hl => ktr_rel); (case h1 => first | assumption | exact IsData.mono (by assumption) (by first | exact fun _ h => h | (intro p hp; kcf_m))); (case h2 => assumption); (case h3 => first | assumption | omega); (case h4 => first | assumption | omega); (case h5 => first | assumption | omega); (case d => ktr_room); (case u => ktr_units); k_whole); (intro v' nx' h' tk' O' F' N'; (obtain ⟨e1, t1, e2⟩ := O'); subst nx'; subst e2); ((try k_sweep); (try dsimp only); (try k_fold))))
--@E
theorem unit_f1_frac : True := by
  w_top off
  trivial
/-! ## fraction_value, four makes of a text -/
--@M
local macro_rules | `(tactic| walk_at "subscriptTail Name UnaryOp ref int") => `(tactic| (k_here; k_dflt (refine' tl_last ?N ?t ?a ?b ?z ?_ ?s; (case N => k_asm); (case t => ktr_rel); (case a => decide); (case b => omega); (case z => omega); (case s => with_unfolding_all rfl); k_whole); intro _))
local macro_rules | `(tactic| walk_at "call builtin:list.index cons nil") => `(tactic| (k_here; k_dflt (refine' tl_index ?N ?t ?a ?z ?_; (case N => k_asm); (case t => ktr_rel); (case a => assumption); (case z => omega); k_whole)))
--@E
theorem tl_in_yes {prog : Program} {w : World} {A : Around} {E : Value → Shared → Prop} {s : Shared} {h₀ : Heap} {L l : Addr} {cur : Led} {ns : List Int} {k : Int} {t : Tok} {Q : Value → Shared → Prop} (N : News h₀ L s.heap cur) (tl : TL cur l ns) (hk : k ∈ ns) (h : Q (.bool true) s) : wpAny (model prog w) A (compareOp .In (.int k t) (.ref l)) Q E s :=
  tl_in N tl (by rw [decide_eq_true hk]; exact h)
theorem tl_in_no {prog : Program} {w : World} {A : Around} {E : Value → Shared → Prop} {s : Shared} {h₀ : Heap} {L l : Addr} {cur : Led} {ns : List Int} {k : Int} {t : Tok} {Q : Value → Shared → Prop} (N : News h₀ L s.heap cur) (tl : TL cur l ns) (hk : k ∉ ns) (h : Q (.bool false) s) : wpAny (model prog w) A (compareOp .In (.int k t) (.ref l)) Q E s :=
  tl_in N tl (by rw [decide_eq_false hk]; exact h)
theorem decimal_digit_n (w : World) (news : Led) (x : Addr) (c : Int) (tc : Tok) (hx : IsD w news x) (hc : c ∈ Alpha) (hz : zof c = none) :
    Spec w 68 [.int c tc, .ref x] 4 news (fun v nx => nx = news ∧ v = .none) := by
  refine (decimal_digit_c w news x c tc hx hc).mono ?_
  rintro v nx ⟨e, ⟨_, h⟩ | ⟨d, t, h, e2⟩⟩
  · exact ⟨e, h⟩
  · rw [dgt_none hz] at h; cases h
theorem alpha_take {ns : List Int} {b : Nat} (hA : ∀ c ∈ ns, c ∈ Alpha) : ∀ c ∈ ns.take b, c ∈ Alpha := fun c hc => hA c (List.mem_of_mem_take hc)
theorem alpha_drop {ns : List Int} {b : Nat} (hA : ∀ c ∈ ns, c ∈ Alpha) : ∀ c ∈ ns.drop b, c ∈ Alpha := fun c hc => hA c (List.mem_of_mem_drop hc)
section
local macro_rules | `(tactic| walk_at "compareOp In int ref") => `(tactic| (k_here; k_dflt (first | (refine' tl_in_yes ?N ?t ?a ?_; (case N => k_asm); (case t => ktr_rel); (case a => assumption); k_whole) | (refine' tl_in_no ?N ?t ?a ?_; (case N => k_asm); (case t => ktr_rel); (case a => assumption); k_whole))))
local macro_rules | `(tactic| walk_at "call ref cons nil") => `(tactic| (k_here; (with_reducible show wpAny _ _ (call (Value.ref 75) _ _) _ _ _); k_dflt (refine' Spec.use ?B ?F ?X ?N ?T ?K (zero_of_k _ _ _ _ _ _ ?h1 ?h2 ?h3) ?d ?u ?_; (case B => k_asm); (case F => k_asm); (case X => k_asm); (case N => k_asm); (case T => k_asm); (case K => first | exact rfl | assumption); (case h1 => first | assumption | exact IsData.mono (by assumption) (by first | exact fun _ h => h | (intro p hp; kcf_m))); (case h3 => assumption); (case h2 => first | assumption | exact at_alpha (by assumption) (by omega) (by omega)); (case d => ktr_room); (case u => ktr_units); k_whole); (intro v' nx' h' tk' O' F' N'; (obtain ⟨e1, t1, e2⟩ := O'); subst nx'; subst e2); ((try k_sweep); (try dsimp only); (try k_fold))))
local macro_rules | `(tactic| walk_at "call ref cons nil") => `(tactic| (k_here; (with_reducible show wpAny _ _ (call (Value.ref 68) _ _) _ _ _); k_dflt (refine' Spec.use ?B ?F ?X ?N ?T ?K (decimal_digit_k _ _ _ _ _ _ ?h1 ?h2 ?h3) ?d ?u ?_; (case B => k_asm); (case F => k_asm); (case X => k_asm); (case N => k_asm); (case T => k_asm); (case K => first | exact rfl | assumption); (case h1 => first | assumption | exact IsData.mono (by assumption) (by first | exact fun _ h => h | (intro p hp; kcf_m))); (case h3 => assumption); (case h2 => first | assumption | exact at_alpha (by assumption) (by omega) (by omega)); (case d => ktr_room); (case u => ktr_units); k_whole); (intro v' nx' h' tk' O' F' N'; (obtain ⟨e1, t1, e2⟩ := O'); subst nx'; subst e2); ((try k_sweep); (try dsimp only); (try k_fold))))
local macro_rules | `(tactic| walk_at "call ref cons nil") => `(tactic| (k_here; (with_reducible show wpAny _ _ (call (Value.ref 68) _ _) _ _ _); k_dflt (refine' Spec.use ?B ?F ?X ?N ?T ?K (decimal_digit_n _ _ _ _ _ ?h1 ?h2 ?h3) ?d ?u ?_; (case B => k_asm); (case F => k_asm); (case X => k_asm); (case N => k_asm); (case T => k_asm); (case K => first | exact rfl | assumption); (case h1 => first | assumption | exact IsData.mono (by assumption) (by first | exact fun _ h => h | (intro p hp; kcf_m))); (case h3 => assumption); (case h2 => first | assumption | exact at_alpha (by assumption) (by omega) (by omega)); (case d => ktr_room); (case u => ktr_units); k_whole); (intro v' nx' h' tk' O' F' N'; (obtain ⟨e1, e2⟩ := O'); subst nx'; subst e2); ((try k_sweep); (try dsimp only); (try k_fold))))
local macro_rules | `(tactic| walk_at "call ref cons nil") => `(tactic| (k_here; (with_reducible show wpAny _ _ (call (Value.ref 82) _ _) _ _ _); k_dflt (refine' Spec.use ?B ?F ?X ?N ?T ?K (numeric_value_k _ _ _ _ _ _ ?h1 ?h2 ?h3) ?d ?u ?_; (case B => k_asm); (case F => k_asm); (case X => k_asm); (case N => k_asm); (case T => k_asm); (case K => first | exact rfl | assumption); (case h1 => first | assumption | exact IsData.mono (by assumption) (by first | exact fun _ h => h | (intro p hp; kcf_m))); (case h3 => assumption); (case h2 => first | assumption | exact at_alpha (by assumption) (by omega) (by omega)); (case d => ktr_room); (case u => ktr_units); k_whole); (intro v' nx' h' tk' O' F' N'; (obtain ⟨T1, u1, u2, e2, e1, l1⟩ := O'); subst nx'; subst e2); ((try k_lt l1); (try k_sweep); (try dsimp only); (try k_fold))))
local macro_rules | `(tactic| walk_at "call ref cons nil") => `(tactic| (k_here; (with_reducible show wpAny _ _ (call (Value.ref 110) _ _) _ _ _); k_dflt (refine' Spec.use ?B ?F ?X ?N ?T ?K (decimal_value_c _ _ _ _ _ _ ?hl ?h1 ?h2 ?h3 ?h4 ?h5) ?d ?u ?_; (case B => k_asm); (case F => k_asm); (case X => k_asm); (case N => k_asm); (case T => k_asm); (case K => first | exact rfl | assumption); (case hl => ktr_rel); (case h1 => first | assumption | exact IsData.mono (by assumption) (by first | exact fun _ h => h | (intro p hp; kcf_m))); (case h5 => assumption); (case h2 => first | assumption | exact alpha_take (by assumption) | exact alpha_drop (by assumption)); (case h3 => ((try rw [List.length_take]); (try rw [List.length_drop]); omega)); (case h4 => ((try rw [List.length_take]); (try rw [List.length_drop]); omega)); (case d => ktr_room); (case u => ktr_units); k_whole); (intro v' nx' h' tk' O' F' N'; (obtain ⟨e1, t1, e2⟩ := O'); subst nx'; subst e2); ((try k_sweep); (try dsimp only); (try k_fold))))
abbrev FOut (news : Led) (q : Int × Int) (v : Value) (nx : Led) : Prop := ∃ T u1 u2, v = .ref T ∧ nx = (T, tup2 q.1 u1 q.2 u2) :: news ∧ ∀ p ∈ news, p.1 < T
theorem frac_slash_c (w : World) (news : Led) (l x : Addr) (ns : List Int) (z : Int) (hl : TL news l ns) (hx : IsD w news x) (hA : ∀ c ∈ ns, c ∈ Alpha) (hn : ns.length < 10) (hm : (8260 : Int) ∈ ns)
    (h1 : 0 < ns.idxOf 8260) (h2 : ns.idxOf 8260 + 1 < ns.length) (hzA : ∀ c ∈ ns.take ((ns.idxOf 8260 : Nat) : Int).toNat, zof c = some z) (hzB : ∀ c ∈ ns.drop (((ns.idxOf 8260 : Nat) : Int) + 1).toNat, zof c = some z)
    (hz0 : zof (ns.getD (0 : Int).toNat 0) = some z) (hz1 : zof (ns.getD (((ns.idxOf 8260 : Nat) : Int) + 1).toNat 0) = some z)
    (hB1 : 0 < decV (ns.drop (((ns.idxOf 8260 : Nat) : Int) + 1).toNat)) (hB2 : decV (ns.drop (((ns.idxOf 8260 : Nat) : Int) + 1).toNat) < 1000000000) :
    Spec w 152 [.ref l, .ref x] 7 news (FOut news (lowP (decV (ns.take ((ns.idxOf 8260 : Nat) : Int).toNat)) (decV (ns.drop (((ns.idxOf 8260 : Nat) : Int) + 1).toNat)))) := by
  intro mean mg mb dp un gd cn cs a ccd cl outer A₀ base h₀ L m s Q E B F X N T hk hd hu ret
  obtain ⟨vs, nl, hlm, hli⟩ := id hl
  refine wpAny_call ?_
  k_dflt ktr_enter
  rename Fr _ _ _ _ => F0
  have F1 : Fr _ _ _ (fun y => List.lookup y [(Str.ofString "data", Value.ref x), (Str.ofString "text", Value.ref l)]) := F0
  clear F0
  k_steps
  rename _ ∧ _ => q9
  exact ret _ _ _ _ ⟨_, _, _, rfl, rfl, by first | exact ktn_ltOf q9.2 | exact ktn_ltOf q9.2.2 | exact ktn_ltOf q9.2.2.2⟩ (by assumption) (cb_drop (by assumption) (by kcf_all))
theorem frac_run_c (w : World) (news : Led) (l x : Addr) (ns : List Int) (z : Int) (hl : TL news l ns) (hx : IsD w news x) (hA : ∀ c ∈ ns, c ∈ Alpha) (hn : ns.length < 10) (hm : (8260 : Int) ∉ ns) (h1 : 0 < ns.length) (hne : ns ≠ [])
    (hz : ∀ c ∈ ns, zof c = some z) (hz0 : zof (ns.getD (-1 + (ns.length : Int)).toNat 0) = some z) :
    Spec w 152 [.ref l, .ref x] 7 news (FOut news (decV ns, 1)) := by
  intro mean mg mb dp un gd cn cs a ccd cl outer A₀ base h₀ L m s Q E B F X N T hk hd hu ret
  obtain ⟨vs, nl, hlm, hli⟩ := id hl
  refine wpAny_call ?_
  k_dflt ktr_enter
  rename Fr _ _ _ _ => F0
  have F1 : Fr _ _ _ (fun y => List.lookup y [(Str.ofString "data", Value.ref x), (Str.ofString "text", Value.ref l)]) := F0
  clear F0
  k_steps
  all_goals first
    | (exfalso; omega)
    | exact ret _ _ _ _ ⟨_, _, _, rfl, rfl, by assumption⟩ (by assumption) (by first | assumption | exact cb_drop (by assumption) (by kcf_all))
    | (rename _ ∧ _ => q9; exact ret _ _ _ _ ⟨_, _, _, rfl, rfl, by first | exact ktn_ltOf q9.2 | exact ktn_ltOf q9.2.2 | exact ktn_ltOf q9.2.2.2 | exact ktn_ltOf q9.2.2.2.2⟩ (by assumption) (by first | assumption | exact cb_drop (by assumption) (by kcf_all)))
theorem frac_sign_c (w : World) (news : Led) (l x : Addr) (ns : List Int) (p : Int × Int) (hl : TL news l ns) (hx : IsD w news x) (hA : ∀ c ∈ ns, c ∈ Alpha) (hm : (8260 : Int) ∉ ns) (h1 : ns.length = 1) (hne : ns ≠ [])
    (hz0 : zof (ns.getD (-1 + (ns.length : Int)).toNat 0) = none) (hs0 : sgn (ns.getD (-1 + (ns.length : Int)).toNat 0) = some p) :
    Spec w 152 [.ref l, .ref x] 7 news (FOut news p) := by
  intro mean mg mb dp un gd cn cs a ccd cl outer A₀ base h₀ L m s Q E B F X N T hk hd hu ret
  obtain ⟨vs, nl, hlm, hli⟩ := id hl
  refine wpAny_call ?_
  k_dflt ktr_enter
  rename Fr _ _ _ _ => F0
  have F1 : Fr _ _ _ (fun y => List.lookup y [(Str.ofString "data", Value.ref x), (Str.ofString "text", Value.ref l)]) := F0
  clear F0
  k_steps
  all_goals first
    | (exfalso; omega)
    | exact ret _ _ _ _ ⟨_, _, _, rfl, rfl, by assumption⟩ (by assumption) (by first | assumption | exact cb_drop (by assumption) (by kcf_all))
    | (rename _ ∧ _ => q9; exact ret _ _ _ _ ⟨_, _, _, rfl, rfl, by first | exact ktn_ltOf q9.2 | exact ktn_ltOf q9.2.2 | exact ktn_ltOf q9.2.2.2 | exact ktn_ltOf q9.2.2.2.2⟩ (by assumption) (by first | assumption | exact cb_drop (by assumption) (by kcf_all)))
theorem frac_mixed_c (w : World) (news : Led) (l x : Addr) (ns : List Int) (z : Int) (p : Int × Int) (hl : TL news l ns) (hx : IsD w news x) (hA : ∀ c ∈ ns, c ∈ Alpha) (hn : ns.length < 10) (hm : (8260 : Int) ∉ ns) (h1 : 1 < ns.length) (hne : ns ≠ [])
    (hz0 : zof (ns.getD (-1 + (ns.length : Int)).toNat 0) = none) (hs0 : sgn (ns.getD (-1 + (ns.length : Int)).toNat 0) = some p) (hp1 : 0 < p.1) (hp2 : p.1 < p.2) (hp3 : p.2 < 10)
    (hz : ∀ c ∈ ns.take (ns.length - (- -1 : Int).toNat), zof c = some z) (hd1 : 0 ≤ decV (ns.take (ns.length - (- -1 : Int).toNat))) (hd2 : decV (ns.take (ns.length - (- -1 : Int).toNat)) < 1000000000) :
    Spec w 152 [.ref l, .ref x] 7 news (FOut news (lowP (decV (ns.take (ns.length - (- -1 : Int).toNat)) * p.2 + p.1 * 1) (1 * p.2))) := by
  intro mean mg mb dp un gd cn cs a ccd cl outer A₀ base h₀ L m s Q E B F X N T hk hd hu ret
  obtain ⟨vs, nl, hlm, hli⟩ := id hl
  refine wpAny_call ?_
  k_dflt ktr_enter
  rename Fr _ _ _ _ => F0
  have F1 : Fr _ _ _ (fun y => List.lookup y [(Str.ofString "data", Value.ref x), (Str.ofString "text", Value.ref l)]) := F0
  clear F0
  k_steps
  all_goals first
    | (exfalso; omega)
    | exact ret _ _ _ _ ⟨_, _, _, rfl, rfl, by assumption⟩ (by assumption) (by first | assumption | exact cb_drop (by assumption) (by kcf_all))
    | (rename _ ∧ _ => q9; exact ret _ _ _ _ ⟨_, _, _, rfl, rfl, by first | exact ktn_ltOf q9.2 | exact ktn_ltOf q9.2.2 | exact ktn_ltOf q9.2.2.2 | exact ktn_ltOf q9.2.2.2.2⟩ (by assumption) (by first | assumption | exact cb_drop (by assumption) (by kcf_all)))
end
local macro_rules | `(tactic| walk_at "mine pad24") => `(tactic| skip)
local macro_rules | `(tactic| walk_at "mine pad25") => `(tactic| skip)
local macro_rules | `(tactic| walk_at "mine pad26") => `(tactic| skip)
local macro_rules | `(tactic| walk_at "mine pad27") => `(tactic| skip)
local macro_rules | `(tactic| walk_at "mine pad28") => `(tactic| skip)
local macro_rules | `(tactic| walk_at "mine pad29") => `(tactic| skip)
local macro_rules | `(tactic| walk_at "mine pad30") => `(tactic| skip)
theorem unit_f2_fracv : True := by
  w_top off
  trivial
/-! ## fraction_value of a number's text -/
def fracV (s : List Int) : Int × Int :=
  if runLen s = 0 then (match s with | c :: _ => (sgn c).getD (0, 1) | [] => (0, 1))
  else match s.drop (runLen s) with
    | [] => (decV s, 1)
    | d :: t => match sgn d with
      | some p => lowP (decV (s.take (runLen s)) * p.2 + p.1 * 1) (1 * p.2)
      | none => lowP (decV (s.take (runLen s))) (decV t)
theorem idx_pre {c : Int} : ∀ {A B : List Int}, (∀ d ∈ A, d ≠ c) → (A ++ c :: B).idxOf c = A.length
  | [], B, _ => by simp
  | a :: A, B, h => by
    have h1 : (a == c) = false := by simpa using h a (List.mem_cons_self ..)
    have h2 := idx_pre (A := A) (B := B) fun d hd => h d (List.mem_cons_of_mem _ hd)
    rw [List.cons_append, List.idxOf_cons, h1, h2]; rfl
theorem zof_not_slash {z : Int} {A : List Int} (h : ∀ c ∈ A, zof c = some z) : ∀ d ∈ A, d ≠ 8260 := by
  intro d hd e; have := h d hd; rw [e] at this; cases this
theorem sgn_not_slash {c : Int} {p : Int × Int} (h : sgn c = some p) : c ≠ 8260 := by intro e; rw [e] at h; cases h
theorem last_get (A : List Int) (c : Int) : (A ++ [c]).getD (-1 + ((A ++ [c]).length : Int)).toNat 0 = c := by
  have : (-1 + ((A ++ [c]).length : Int)).toNat = A.length := by simp only [List.length_append, List.length_singleton]; omega
  rw [this]; simp [List.getD]
theorem init_take (A : List Int) (c : Int) : (A ++ [c]).take ((A ++ [c]).length - (- -1 : Int).toNat) = A := by
  have : (A ++ [c]).length - (- -1 : Int).toNat = A.length := by simp only [List.length_append, List.length_singleton]; omega
  rw [this]; simp
theorem mid_get (A : List Int) (c d : Int) (B : List Int) : (A ++ c :: d :: B).getD ((A.length : Int) + 1).toNat 0 = d := by
  have : ((A.length : Int) + 1).toNat = A.length + 1 := by omega
  rw [this]; simp [List.getD]
theorem runLen_cons {c : Int} {r : List Int} (h : runLen (c :: r) ≠ 0) : ∃ z, zof c = some z := by
  rw [runLen] at h
  cases hz : zof c with
  | none => rw [hz] at h; exact absurd rfl h
  | some z => exact ⟨z, rfl⟩
theorem head_getD {s : List Int} {z : Int} (h : s.head?.bind zof = some z) : zof (s.getD (0 : Int).toNat 0) = some z := by
  cases s with
  | nil => cases h
  | cons c r => simpa [List.getD] using h
theorem dec_bd {s : List Int} {z : Int} (h : ∀ c ∈ s, zof c = some z) (hn : s.length ≤ 9) : 0 ≤ decV s ∧ decV s < 1000000000 := by
  have q := decV_bd s (fun c hc => by rw [h c hc]; rfl)
  refine ⟨q.1, Int.lt_of_lt_of_le q.2 ?_⟩
  have : ∀ k : Nat, k ≤ 9 → (10 : Int) ^ k ≤ 1000000000 := by
    intro k hk
    have : k = 0 ∨ k = 1 ∨ k = 2 ∨ k = 3 ∨ k = 4 ∨ k = 5 ∨ k = 6 ∨ k = 7 ∨ k = 8 ∨ k = 9 := by omega
    rcases this with h | h | h | h | h | h | h | h | h | h <;> subst h <;> decide
  exact this _ hn
theorem sgn_den {c : Int} {p : Int × Int} (h : sgn c = some p) : p.2 < 10 := by
  unfold sgn at h
  (repeat' split at h) <;> first | (cases h; decide) | cases h
theorem fraction_value_c (w : World) (news : Led) (l x : Addr) (s : List Int) (hl : TL news l s) (hx : IsD w news x) (hA : ∀ c ∈ s, c ∈ Alpha) (hn : s.length < 10) (h0 : 0 < s.length) (hnum : numLen s = s.length) :
    Spec w 152 [.ref l, .ref x] 7 news (FOut news (fracV s)) := by
  have hne : s ≠ [] := by intro e; rw [e] at h0; simp at h0
  by_cases hk : runLen s = 0
  · cases s with
    | nil => exact absurd rfl hne
    | cons c r =>
      unfold numLen at hnum; rw [if_pos hk] at hnum
      cases hs : sgn c with
      | none => simp only [hs] at hnum; simp at hnum
      | some p =>
        simp only [hs, Option.isSome_some, if_true, List.length_cons] at hnum
        have hr : r = [] := List.eq_nil_of_length_eq_zero (by omega)
        subst hr
        have e : fracV [c] = p := by unfold fracV; rw [if_pos hk]; simp only [hs, Option.getD_some]
        rw [e]
        exact frac_sign_c w news l x [c] p hl hx hA (by simp [(sgn_not_slash hs).symm]) rfl (by simp) (by rw [show ([c] : List Int).getD (-1 + (([c] : List Int).length : Int)).toNat 0 = c from rfl]; exact sgn_zof hs) hs
  · obtain ⟨z, hz, hall⟩ := run_all (s := s) (by omega)
    have hsplit := List.take_append_drop (runLen s) s
    have hkl : (s.take (runLen s)).length = runLen s := by rw [List.length_take]; have := runLen_le s; omega
    cases hd : s.drop (runLen s) with
    | nil =>
      have hs : s.take (runLen s) = s := by rw [hd, List.append_nil] at hsplit; exact hsplit
      rw [hs] at hall
      have e : fracV s = (decV s, 1) := by unfold fracV; rw [if_neg hk, hd]
      rw [e]
      refine frac_run_c w news l x s z hl hx hA hn (fun hm => zof_not_slash hall _ hm rfl) h0 hne hall (hall _ ?_)
      have : (-1 + (s.length : Int)).toNat < s.length := by omega
      simp [List.getD, this]
    | cons d t =>
      rw [hd] at hsplit
      generalize hA' : s.take (runLen s) = A at hsplit hall hkl
      have hA0 : 0 < A.length := by omega
      have hlen : s.length = A.length + 1 + t.length := by rw [← hsplit]; simp; omega
      unfold numLen at hnum; rw [if_neg hk, hd] at hnum
      cases hs : sgn d with
      | some p =>
        simp only [hs] at hnum
        have ht : t = [] := by
          apply List.eq_nil_of_length_eq_zero
          split at hnum <;> omega
        subst ht
        have hp : 0 < p.1 ∧ p.1 < p.2 := by
          by_cases h : 0 < p.1 ∧ p.1 < p.2
          · exact h
          · rw [if_neg h] at hnum; simp only [List.length_nil] at hlen; omega
        have e : fracV s = lowP (decV A * p.2 + p.1 * 1) (1 * p.2) := by unfold fracV; rw [if_neg hk, hd]; simp only [hs, hA']
        rw [e]
        have b := dec_bd hall (by omega)
        have it := init_take A d
        have lg := last_get A d
        rw [← hsplit] at hl hA hn
        have q := frac_mixed_c w news l x (A ++ [d]) z p hl hx hA hn (fun hm => by
          rcases List.mem_append.mp hm with h | h
          · exact zof_not_slash hall _ h rfl
          · exact sgn_not_slash hs (List.mem_singleton.mp h).symm) (by rw [hsplit]; omega) (by rw [hsplit]; exact hne) (by rw [lg]; exact sgn_zof hs) (by rw [lg]; exact hs) hp.1 hp.2 (sgn_den hs) (by rw [it]; exact hall) (by rw [it]; exact b.1) (by rw [it]; exact b.2)
        rw [it] at q
        exact q
      | none =>
        simp only [hs] at hnum
        by_cases hc : d = 8260 ∧ 0 < runLen t ∧ t.head?.bind zof = s.head?.bind zof ∧ decV (t.take (runLen t)) ≠ 0
        · rw [if_pos hc] at hnum
          obtain ⟨h1, h2, h3, h4⟩ := hc
          have hr : runLen t = t.length := by omega
          obtain ⟨z', hz', hall'⟩ := run_all h2
          rw [hr, List.take_length] at h4 hall'
          have hzz : z' = z := by rw [hz'] at h3; rw [hz] at h3; exact Option.some.inj h3
          subst hzz
          subst h1
          have e : fracV s = lowP (decV A) (decV t) := by unfold fracV; rw [if_neg hk, hd]; simp only [hs, hA']
          rw [e]
          have b := dec_bd hall' (by omega)
          have ix : (A ++ 8260 :: t).idxOf 8260 = A.length := idx_pre (zof_not_slash hall)
          have e1 : (A ++ 8260 :: t).take (((A ++ 8260 :: t).idxOf 8260 : Nat) : Int).toNat = A := by rw [ix]; simp
          have e2 : (A ++ 8260 :: t).drop ((((A ++ 8260 :: t).idxOf 8260 : Nat) : Int) + 1).toNat = t := by
            rw [ix, show ((A.length : Int) + 1).toNat = A.length + 1 by omega]; simp
          have e3 : zof ((A ++ 8260 :: t).getD ((((A ++ 8260 :: t).idxOf 8260 : Nat) : Int) + 1).toNat 0) = some z' := by
            rw [ix]
            cases t with
            | nil => simp [runLen] at h2
            | cons d2 t2 => rw [mid_get]; exact hall' _ (List.mem_cons_self ..)
          have e4 : zof ((A ++ 8260 :: t).getD (0 : Int).toNat 0) = some z' := by rw [hsplit]; exact head_getD hz
          rw [← hsplit] at hl hA hn
          have q := frac_slash_c w news l x (A ++ 8260 :: t) z' hl hx hA hn (by simp) (by rw [ix]; exact hA0) (by rw [ix, hsplit]; omega) (by rw [e1]; exact hall) (by rw [e2]; exact hall') e4 e3 (by rw [e2]; omega) (by rw [e2]; exact b.2)
          rw [e1, e2] at q
          exact q
        · rw [if_neg hc] at hnum; omega
--@M
local macro_rules | `(tactic| walk_at "call ref cons nil") => `(tactic| (k_here; (with_reducible show wpAny _ _ (call (Value.ref 152) _ _) _ _ _); k_dflt (refine' Spec.use ?B ?F ?X ?N ?T ?K (fraction_value_c _ _ _ _ _ ?hl ?h1 ?h2 ?h3 ?h4 ?h5) ?d ?u ?_; (case B => k_asm); (case F => k_asm); (case X => k_asm); (case N => k_asm); (case T => k_asm); (case K => first | exact rfl | assumption); (case hl => ktr_rel); (case h1 => first | assumption | exact IsData.mono (by assumption) (by first | exact fun _ h => h | (intro p hp; kcf_m))); (case h2 => first | assumption | exact alpha_slice (by assumption)); (case h3 => first | assumption | omega | (rw [List.length_take, List.length_drop]; omega)); (case h4 => first | assumption | omega | (rw [List.length_take, List.length_drop]; omega)); (case h5 => assumption); (case d => ktr_room); (case u => ktr_units); k_whole); (intro v' nx' h' tk' O' F' N'; (obtain ⟨T1, u1, u2, e2, e1, l1⟩ := O'); subst nx'; subst e2); ((try k_lt l1); (try k_sweep); (try dsimp only); (try k_fold))))
--@E
theorem unit_g1_nums : True := by
  w_top off
  trivial
/-! ## numbers_in -/
abbrev NumT := Int × Int × Int × Int
def numD (q : NumT) : Dat := .tuple [.int q.1, .int q.2.1, dPair q.2.2.1 q.2.2.2]
def nums (off : Int) (s : List Int) : List NumT :=
  if _h : s = [] then []
  else if 0 < numLen s then (off, off + (numLen s : Nat), fracV (s.take (numLen s))) :: nums (off + (numLen s : Nat)) (s.drop (numLen s))
  else nums (off + 1) (s.drop 1)
termination_by s.length
decreasing_by
  all_goals (have : 0 < s.length := List.length_pos_iff.mpr _h; simp only [List.length_drop]; omega)
theorem nums_nil (off : Int) : nums off [] = [] := by rw [nums]; simp
theorem nums_yes {off : Int} {s : List Int} (h : 0 < s.length) (hk : 0 < numLen s) : nums off s = (off, off + (numLen s : Nat), fracV (s.take (numLen s))) :: nums (off + (numLen s : Nat)) (s.drop (numLen s)) := by
  rw [nums, dif_neg (by intro e; rw [e] at h; simp at h), if_pos hk]
theorem nums_no {off : Int} {s : List Int} (h : 0 < s.length) (hk : numLen s = 0) : nums off s = nums (off + 1) (s.drop 1) := by
  rw [nums, dif_neg (by intro e; rw [e] at h; simp at h), if_neg (by omega)]
theorem runLen_pre {s : List Int} : numLen s ≤ s.length := by
  unfold numLen
  have h := runLen_le s
  split
  · cases s with
    | nil => simp
    | cons c r => simp only [List.length_cons]; split <;> omega
  · split
    · exact h
    · rename_i d t hd
      have hl := congrArg List.length hd
      rw [List.length_drop, List.length_cons] at hl
      have h2 := runLen_le t
      split
      · split <;> omega
      · split <;> omega
theorem rlen_take {z : Int} : ∀ {s : List Int} {k : Nat}, rlen z s ≤ k → rlen z (s.take k) = rlen z s
  | [], k, _ => by simp
  | c :: r, 0, h => by
    have e : rlen z (c :: r) = 0 := by omega
    rw [List.take_zero, e]; rfl
  | c :: r, k + 1, h => by
    rw [List.take_succ_cons, rlen, rlen]
    rw [rlen] at h
    split
    · rename_i hz
      rw [if_pos hz] at h
      rw [rlen_take (by omega)]
    · rfl
theorem runLen_take {s : List Int} {k : Nat} (h : runLen s ≤ k) : runLen (s.take k) = runLen s := by
  cases s with
  | nil => simp
  | cons c r =>
    cases k with
    | zero =>
      have e : runLen (c :: r) = 0 := by omega
      rw [List.take_zero, e]; rfl
    | succ k =>
      rw [List.take_succ_cons, runLen, runLen]
      rw [runLen] at h
      cases hz : zof c with
      | none => rfl
      | some z =>
        rw [hz] at h
        have q := rlen_take (z := z) (s := c :: r) (k := k + 1) h
        rw [List.take_succ_cons] at q
        exact q
theorem head_take {s : List Int} {k : Nat} (h : 0 < k) : (s.take k).head? = s.head? := by
  cases s with
  | nil => simp
  | cons c r => cases k with
    | zero => omega
    | succ k => simp
theorem numLen_ge (s : List Int) : runLen s ≤ numLen s := by
  unfold numLen
  split
  · omega
  · split
    · exact Nat.le_refl _
    · split
      · split <;> omega
      · split <;> omega
theorem numLen_take (s : List Int) : numLen (s.take (numLen s)) = numLen s := by
  have hge := numLen_ge s
  have hrt := runLen_take hge
  by_cases hk : runLen s = 0
  · cases s with
    | nil => simp
    | cons c r =>
      by_cases hs : (sgn c).isSome = true
      · have e : numLen (c :: r) = 1 := by unfold numLen; rw [if_pos hk]; simp only [hs, if_true]
        rw [e] at hrt ⊢
        rw [hk] at hrt
        rw [List.take_succ_cons, List.take_zero] at hrt ⊢
        unfold numLen; rw [if_pos hrt]; simp only [hs, if_true]
      · have e : numLen (c :: r) = 0 := by unfold numLen; rw [if_pos hk]; simp only [hs, Bool.false_eq_true, if_false]
        rw [e, List.take_zero]; rfl
  · have hdt : ∀ n, (s.take n).drop (runLen s) = (s.drop (runLen s)).take (n - runLen s) := fun n => by rw [List.drop_take]
    have short : numLen s = runLen s → numLen (s.take (numLen s)) = numLen s := fun e => by
      rw [e] at hrt ⊢
      conv => lhs; unfold numLen
      rw [hrt, if_neg hk, hdt]; simp
    cases hd : s.drop (runLen s) with
    | nil => exact short (by unfold numLen; rw [if_neg hk, hd])
    | cons d t =>
      cases hs : sgn d with
      | some p =>
        by_cases hp : 0 < p.1 ∧ p.1 < p.2
        · have e : numLen s = runLen s + 1 := by unfold numLen; rw [if_neg hk, hd]; simp only [hs]; rw [if_pos hp]
          rw [e] at hrt ⊢
          conv => lhs; unfold numLen
          rw [hrt, if_neg hk, hdt, hd, show runLen s + 1 - runLen s = 1 by omega, List.take_succ_cons, List.take_zero]
          simp only [hs]; rw [if_pos hp]
        · exact short (by unfold numLen; rw [if_neg hk, hd]; simp only [hs]; rw [if_neg hp])
      | none =>
        by_cases hc : d = 8260 ∧ 0 < runLen t ∧ t.head?.bind zof = s.head?.bind zof ∧ decV (t.take (runLen t)) ≠ 0
        · have e : numLen s = runLen s + 1 + runLen t := by unfold numLen; rw [if_neg hk, hd]; simp only [hs]; rw [if_pos hc]
          rw [e] at hrt ⊢
          conv => lhs; unfold numLen
          rw [hrt, if_neg hk, hdt, hd, show runLen s + 1 + runLen t - runLen s = runLen t + 1 by omega, List.take_succ_cons]
          simp only [hs]
          have r1 : runLen (t.take (runLen t)) = runLen t := runLen_take (Nat.le_refl _)
          rw [r1, head_take hc.2.1, head_take (show 0 < runLen s + 1 + runLen t by omega), List.take_take, Nat.min_self, if_pos hc]
        · exact short (by unfold numLen; rw [if_neg hk, hd]; simp only [hs]; rw [if_neg hc])
theorem piece_len (s : List Int) : numLen (s.take (numLen s)) = (s.take (numLen s)).length := by
  rw [numLen_take, List.length_take]; have := runLen_pre (s := s); omega
theorem unit_g2_numsin : True := by
  w_top off
  trivial
theorem piece_eq {ns : List Int} {i : Int} (h0 : 0 ≤ i) : (ns.drop i.toNat).take ((i + (numLen (ns.drop i.toNat) : Nat)).toNat - i.toNat) = (ns.drop i.toNat).take (numLen (ns.drop i.toNat)) := by
  rw [show (i + (numLen (ns.drop i.toNat) : Nat)).toNat - i.toNat = numLen (ns.drop i.toNat) by omega]
theorem piece_slice {ns : List Int} {i : Int} (h0 : 0 ≤ i) : numLen ((ns.drop i.toNat).take ((i + (numLen (ns.drop i.toNat) : Nat)).toNat - i.toNat)) = ((ns.drop i.toNat).take ((i + (numLen (ns.drop i.toNat) : Nat)).toNat - i.toNat)).length := by
  rw [piece_eq h0]; exact piece_len _
theorem perm4 {α : Type} {x a b c : α} {r : List α} : ∀ p ∈ x :: a :: b :: c :: r, p ∈ a :: b :: c :: x :: r := by
  intro p hp; simp only [List.mem_cons] at hp ⊢; rcases hp with h | h | h | h | h <;> simp [h]
theorem at_fix1 {a e : Int} {t u : Tok} (h : ¬ a > e) : some (Value.int (if a > e then a else e) (if a > e then t else u)) = some (Value.int e u) := by rw [if_neg h, if_neg h]
theorem at_fix2 {a e : Int} {t u : Tok} (h : a > e) : some (Value.int (if a > e then a else e) (if a > e then t else u)) = some (Value.int a t) := by rw [if_pos h, if_pos h]
structure NSt where
  at_ : Int
  ta : Tok
  us : List Value
  n : Nat
  tl : Led
  done : List NumT
section
local macro_rules | `(tactic| k_all) => `(tactic| assumption)
local macro_rules | `(tactic| walk_at "call builtin:list.append cons nil") => `(tactic| (k_here; k_dflt (refine' append_K ?k1 ?k2 ?k3 ?_ ?z; (case k1 => k_asm); (case k2 => k_asm); (case k3 => k_upd); (case z => (rw [List.size_toArray, sizeLine_eq]; omega)); k_whole); intro h' F' N'; (try k_sweep)))
local macro_rules | `(tactic| walk_at "call ref cons nil") => `(tactic| (k_here; (with_reducible show wpAny _ _ (call (Value.ref 152) _ _) _ _ _); k_dflt (refine' Spec.use ?B ?F ?X ?N ?T ?K (fraction_value_c _ _ _ _ _ ?hl ?h1 ?h2 ?h3 ?h4 ?h5) ?d ?u ?_; (case B => k_asm); (case F => k_asm); (case X => k_asm); (case N => k_asm); (case T => k_asm); (case K => first | exact rfl | assumption); (case hl => ktr_rel); (case h1 => first | assumption | exact IsData.mono (by assumption) (by first | exact fun _ h => h | (intro p hp; kcf_m))); (case h2 => first | assumption | exact alpha_slice (by assumption)); (case h3 => first | assumption | omega | (rw [List.length_take, List.length_drop]; omega)); (case h4 => first | assumption | omega | (rw [List.length_take, List.length_drop]; omega)); (case h5 => exact piece_slice (by omega)); (case d => ktr_room); (case u => ktr_units); k_whole); (intro v' nx' h' tk' O' F' N'; (obtain ⟨T1, u1, u2, e2, e1, l1⟩ := O'); subst nx'; subst e2); ((try k_lt l1); (try k_sweep); (try dsimp only); (try k_fold))))
theorem numbers_in_c (w : World) (news : Led) (l x : Addr) (ns : List Int) (hl : TL news l ns) (hx : IsD w news x) (hA : ∀ c ∈ ns, c ∈ Alpha) (hn : ns.length < 10) :
    Spec w 159 [.ref l, .ref x] 8 news (fun v nx => ∃ fl us n tl, v = .ref fl ∧ nx = (fl, listOf us.toArray n) :: (tl ++ news) ∧ DatAll (tl ++ news) us ((nums 0 ns).map numD) ∧ (∀ p ∈ news, p.1 < fl)) := by
  intro mean mg mb dp un gd cn cs a ccd cl outer A₀ base h₀ L m s Q E B F X N T hk hd hu ret
  refine wpAny_call ?_
  k_dflt ktr_enter
  rename Fr _ _ _ _ => F0
  have F1 : Fr _ _ _ (fun y => List.lookup y [(Str.ofString "data", Value.ref x), (Str.ofString "text", Value.ref l)]) := F0
  clear F0
  k_steps
  unfold Hold
  rename Fr _ _ _ _ => lF'
  rename News _ _ _ _ => lN'
  rename_i fl h4 lfl D h3 lD h2 h1 h0
  k_dflt (refine ksw_while (σ := NSt) (fun c => (fl, listOf c.us.toArray c.n) :: (c.tl ++ news)) (fun c => [(Str.ofString "at", .int c.at_ c.ta)]) (fun _ => True) [Str.ofString "end"] (fun c => 0 ≤ c.at_ ∧ c.at_ ≤ ns.length ∧ DatAll (c.tl ++ news) c.us (c.done.map numD) ∧ (∀ p ∈ c.tl ++ news, p.1 ≠ fl) ∧ c.done ++ nums c.at_ (ns.drop c.at_.toNat) = nums 0 ns ∧ (c.us.length : Int) ≤ c.at_) (fun c => ((ns.length : Int) - c.at_).toNat) ⟨0, _, [], 0, [], []⟩ lF' (cb_drop lN' (fun p hp => List.mem_cons_of_mem _ hp)) trivial (List.forall_mem_cons.mpr ⟨rfl, List.forall_mem_nil _⟩) ⟨Int.le_refl _, by dsimp only; omega, .nil, fun p hp => Nat.ne_of_lt (lfl p hp), rfl, by dsimp only; simp⟩ ?_)
  rintro ⟨at_, ta, us, n, tl, done⟩ u h tk - ⟨p1, p2, p3, p4, p5, p6⟩ F' N'
  dsimp only at p1 p2 p3 p4 p5 p6 F' N' ⊢
  simp only [kstB] at F'
  clear lF' lN'
  (try k_unmd); (try k_fold)
  k_steps
  all_goals (try unfold Hold)
  · have k0 : 0 < numLen (ns.drop at_.toNat) := by omega
    have k1 : 0 < (ns.drop at_.toNat).length := by rw [List.length_drop]; omega
    have k2 := runLen_pre (s := ns.drop at_.toNat)
    rw [List.length_drop] at k2
    rename News _ _ _ (_ :: _ :: _ :: _ :: _) => nN
    rw [List.push_toArray] at nN
    refine ksw_end ⟨at_ + (numLen (ns.drop at_.toNat) : Nat), _, us ++ [.ref _], n + 1, (_, _) :: (_, _) :: (_, _) :: tl, done ++ [(at_, at_ + (numLen (ns.drop at_.toNat) : Nat), fracV ((ns.drop at_.toNat).take (numLen (ns.drop at_.toNat))))]⟩ (by assumption) nN perm4 trivial (List.forall_mem_cons.mpr ⟨at_fix1 (a := at_ + 1) (e := at_ + (numLen (ns.drop at_.toNat) : Nat)) (by omega), List.forall_mem_nil _⟩) (by ksw_same) ?_ ?_
    · dsimp only
      have hfl : ∀ p ∈ tl ++ news, p.1 ≠ fl := p4
      refine ⟨by omega, by omega, ?_, ?_, ?_, by rw [List.length_append]; simp only [List.length_cons, List.length_nil]; omega⟩
      · rw [List.map_append]
        refine .append (p3.mono (fun p hp => List.mem_cons_of_mem _ (List.mem_cons_of_mem _ (List.mem_cons_of_mem _ hp)))) (.one (.tuple (.head _) (.cons (.int _ _) (.cons (.int _ _) (.cons ?_ .nil)))))
        rw [piece_eq p1]
        exact .tuple (.tail _ (.head _)) (.cons (.int _ _) (.cons (.int _ _) .nil))
      · intro p hp
        rcases List.mem_cons.mp hp with rfl | hp
        · exact Nat.ne_of_gt (by omega)
        rcases List.mem_cons.mp hp with rfl | hp
        · exact Nat.ne_of_gt (by omega)
        rcases List.mem_cons.mp hp with rfl | hp
        · exact Nat.ne_of_gt (by omega)
        exact hfl p hp
      · rw [List.append_assoc, ← p5, nums_yes k1 k0]
        rw [List.drop_drop, show at_.toNat + numLen (ns.drop at_.toNat) = (at_ + (numLen (ns.drop at_.toNat) : Nat)).toNat by omega]; rfl
    · dsimp only; omega
  · have k0 : numLen (ns.drop at_.toNat) = 0 := by omega
    have k1 : 0 < (ns.drop at_.toNat).length := by rw [List.length_drop]; omega
    refine ksw_end ⟨at_ + 1, _, us, n, tl, done⟩ (by assumption) (by assumption) (fun _ h => h) trivial (List.forall_mem_cons.mpr ⟨at_fix2 (a := at_ + 1) (e := at_ + (numLen (ns.drop at_.toNat) : Nat)) (by omega), List.forall_mem_nil _⟩) (by ksw_same) ?_ ?_
    · dsimp only
      refine ⟨by omega, by omega, p3, p4, ?_, by omega⟩
      rw [← p5, nums_no k1 k0, List.drop_drop, show at_.toNat + 1 = (at_ + 1).toNat by omega]
    · dsimp only; omega
  · have k1 : ns.drop at_.toNat = [] := List.drop_eq_nil_of_le (by omega)
    rw [k1, nums_nil, List.append_nil] at p5
    exact ret _ _ _ _ ⟨_, _, _, _, rfl, rfl, p5 ▸ p3, lfl⟩ (by assumption) (by assumption)
end
local macro_rules | `(tactic| walk_at "mine pad31") => `(tactic| skip)
local macro_rules | `(tactic| walk_at "mine pad32") => `(tactic| skip)
local macro_rules | `(tactic| walk_at "mine pad33") => `(tactic| skip)
local macro_rules | `(tactic| walk_at "mine pad34") => `(tactic| skip)
--@M
local macro_rules | `(tactic| walk_at "call ref cons nil") => `(tactic| (k_here; (with_reducible show wpAny _ _ (call (Value.ref 159) _ _) _ _ _); k_dflt (refine' Spec.use ?B ?F ?X ?N ?T ?K (numbers_in_c _ _ _ _ _ ?hl ?h1 ?h2 ?h3) ?d ?u ?_; (case B => k_asm); (case F => k_asm); (case X => k_asm); (case N => k_asm); (case T => k_asm); (case K => first | exact rfl | assumption); (case hl => ktr_rel); (case h1 => first | assumption | exact IsData.mono (by assumption) (by first | exact fun _ h => h | (intro p hp; kcf_m))); (case h2 => first | assumption | exact alpha_slice (by assumption)); (case h3 => first | assumption | omega | (rw [List.length_take, List.length_drop]; omega)); (case d => ktr_room); (case u => ktr_units); k_whole); (intro v' nx' h' tk' O' F' N'; (obtain ⟨fl1, us1, n1, tl1, e2, e1, d1, l1⟩ := O'); subst nx'; subst e2); ((try k_lt l1); (try k_sweep); (try dsimp only); (try k_fold))))
--@E
theorem unit_h1_runs : True := by
  w_top off
  trivial
/-! ## digit_runs -/
def runs (off : Int) (s : List Int) : List (Int × Int) :=
  if _h : s = [] then []
  else if 0 < runLen s then (off, off + (runLen s : Nat)) :: runs (off + (runLen s : Nat)) (s.drop (runLen s))
  else runs (off + 1) (s.drop 1)
termination_by s.length
decreasing_by
  all_goals (have : 0 < s.length := List.length_pos_iff.mpr _h; simp only [List.length_drop]; omega)
theorem runs_nil (off : Int) : runs off [] = [] := by rw [runs]; simp
theorem runs_yes {off : Int} {s : List Int} (h : 0 < s.length) (hk : 0 < runLen s) : runs off s = (off, off + (runLen s : Nat)) :: runs (off + (runLen s : Nat)) (s.drop (runLen s)) := by
  rw [runs, dif_neg (by intro e; rw [e] at h; simp at h), if_pos hk]
theorem runs_no {off : Int} {s : List Int} (h : 0 < s.length) (hk : runLen s = 0) : runs off s = runs (off + 1) (s.drop 1) := by
  rw [runs, dif_neg (by intro e; rw [e] at h; simp at h), if_neg (by omega)]
def RunIn (news : Led) (v : Value) (q : Int × Int) : Prop :=
  ∃ (p d : Addr) (n : Nat) (h1 h2 h3 : Int) (t1 t2 t3 ta tb : Tok) (v3 : Value), v = .ref p ∧ (p, instObj 134 d) ∈ news ∧
    (d, dictOf [⟨h1, .str "first" t1, .int q.1 ta⟩, ⟨h2, .str "last" t2, .int q.2 tb⟩, ⟨h3, .str "zero" t3, v3⟩] n) ∈ news
theorem RunIn.mono {news news' : Led} {v : Value} {q : Int × Int} (h : RunIn news v q) (s : ∀ p ∈ news, p ∈ news') : RunIn news' v q :=
  let ⟨p, d, n, h1, h2, h3, t1, t2, t3, ta, tb, v3, e, a, b⟩ := h
  ⟨p, d, n, h1, h2, h3, t1, t2, t3, ta, tb, v3, e, s _ a, s _ b⟩
inductive RunAll (news : Led) : List Value → List (Int × Int) → Prop
  | nil : RunAll news [] []
  | cons {v : Value} {vs : List Value} {q : Int × Int} {qs : List (Int × Int)} : RunIn news v q → RunAll news vs qs → RunAll news (v :: vs) (q :: qs)
theorem RunAll.mono {news news' : Led} {vs : List Value} {qs : List (Int × Int)} (h : RunAll news vs qs) (s : ∀ p ∈ news, p ∈ news') : RunAll news' vs qs := by
  induction h with
  | nil => exact .nil
  | cons a _ ih => exact .cons (a.mono s) ih
theorem RunAll.snoc {news : Led} {vs : List Value} {qs : List (Int × Int)} {v : Value} {q : Int × Int} (h : RunAll news vs qs) (k : RunIn news v q) : RunAll news (vs ++ [v]) (qs ++ [q]) := by
  induction h with
  | nil => exact .cons k .nil
  | cons a _ ih => exact .cons a ih
theorem perm3 {α : Type} {x a b : α} {r : List α} : ∀ p ∈ x :: a :: b :: r, p ∈ a :: b :: x :: r := by
  intro p hp; simp only [List.mem_cons] at hp ⊢; rcases hp with h | h | h | h <;> simp [h]
structure RSt where
  at_ : Int
  ta : Tok
  us : List Value
  n : Nat
  tl : Led
  done : List (Int × Int)
section
local macro_rules | `(tactic| k_all) => `(tactic| assumption)
local macro_rules | `(tactic| walk_at "call builtin:list.append cons nil") => `(tactic| (k_here; k_dflt (refine' append_K ?k1 ?k2 ?k3 ?_ ?z; (case k1 => k_asm); (case k2 => k_asm); (case k3 => k_upd); (case z => (rw [List.size_toArray, sizeLine_eq]; omega)); k_whole); intro h' F' N'; (try k_sweep)))
theorem digit_runs_c (w : World) (news : Led) (l x : Addr) (ns : List Int) (hl : TL news l ns) (hx : IsD w news x) (hA : ∀ c ∈ ns, c ∈ Alpha) (hn : ns.length < 10) :
    Spec w 145 [.ref l, .ref x] 8 news (fun v nx => ∃ fl us n tl, v = .ref fl ∧ nx = (fl, listOf us.toArray n) :: (tl ++ news) ∧ RunAll (tl ++ news) us (runs 0 ns) ∧ (∀ p ∈ news, p.1 < fl)) := by
  intro mean mg mb dp un gd cn cs a ccd cl outer A₀ base h₀ L m s Q E B F X N T hk hd hu ret
  refine wpAny_call ?_
  k_dflt ktr_enter
  rename Fr _ _ _ _ => F0
  have F1 : Fr _ _ _ (fun y => List.lookup y [(Str.ofString "data", Value.ref x), (Str.ofString "text", Value.ref l)]) := F0
  clear F0
  k_steps
  unfold Hold
  rename Fr _ _ _ _ => lF'
  rename News _ _ _ _ => lN'
  rename_i fl h4 lfl D h3 lD h2 h1 h0
  k_dflt (refine ksw_while (σ := RSt) (fun c => (fl, listOf c.us.toArray c.n) :: (c.tl ++ news)) (fun c => [(Str.ofString "at", .int c.at_ c.ta)]) (fun _ => True) [Str.ofString "end", Str.ofString "zero"] (fun c => 0 ≤ c.at_ ∧ c.at_ ≤ ns.length ∧ RunAll (c.tl ++ news) c.us c.done ∧ (∀ p ∈ c.tl ++ news, p.1 ≠ fl) ∧ c.done ++ runs c.at_ (ns.drop c.at_.toNat) = runs 0 ns ∧ (c.us.length : Int) ≤ c.at_) (fun c => ((ns.length : Int) - c.at_).toNat) ⟨0, _, [], 0, [], []⟩ lF' (cb_drop lN' (fun p hp => List.mem_cons_of_mem _ hp)) trivial (List.forall_mem_cons.mpr ⟨rfl, List.forall_mem_nil _⟩) ⟨Int.le_refl _, by dsimp only; omega, .nil, fun p hp => Nat.ne_of_lt (lfl p hp), rfl, by dsimp only; simp⟩ ?_)
  rintro ⟨at_, ta, us, n, tl, done⟩ u h tk - ⟨p1, p2, p3, p4, p5, p6⟩ F' N'
  dsimp only at p1 p2 p3 p4 p5 p6 F' N' ⊢
  simp only [kstB] at F'
  clear lF' lN'
  (try k_unmd); (try k_fold)
  k_steps
  all_goals (try unfold Hold)
  · rename zof (ns.getD at_.toNat 0) = none => q1
    have k0 : runLen (ns.drop at_.toNat) = 0 := runLen_none p1 (by omega) q1
    have k1 : 0 < (ns.drop at_.toNat).length := by rw [List.length_drop]; omega
    refine ksw_end ⟨at_ + 1, _, us, n, tl, done⟩ (by assumption) (by assumption) (fun p hp => List.mem_cons_of_mem _ hp) trivial (List.forall_mem_cons.mpr ⟨rfl, List.forall_mem_nil _⟩) (by ksw_same) ?_ ?_
    · dsimp only
      refine ⟨by omega, by omega, p3, p4, ?_, by omega⟩
      rw [← p5, runs_no k1 k0, List.drop_drop, show at_.toNat + 1 = (at_ + 1).toNat by omega]
    · dsimp only; omega
  · rename zof (ns.getD at_.toNat 0) = some _ => q1
    rename Fr _ _ _ _ => lF'
    rename News _ _ _ _ => lN'
    rename _ ∧ AllLt _ _ => l1
    rename_i z tz D0 h5 h6 h7 h8
    have q2 := runLen_some p1 (by omega) q1
    k_dflt (refine ksw_while (σ := Int × Tok) (fun _ => (fl, listOf us.toArray n) :: (tl ++ news)) (fun c => [(Str.ofString "end", .int c.1 c.2)]) (fun _ => True) [] (fun c => at_ + 1 ≤ c.1 ∧ c.1 ≤ ns.length ∧ at_ + (rlen z (ns.drop at_.toNat) : Nat) = c.1 + (rlen z (ns.drop c.1.toNat) : Nat)) (fun c => ((ns.length : Int) - c.1).toNat) (at_ + 1, _) lF' (cb_drop lN' (fun p hp => List.mem_cons_of_mem _ hp)) trivial (List.forall_mem_cons.mpr ⟨rfl, List.forall_mem_nil _⟩) ⟨Int.le_refl _, by dsimp only; omega, by dsimp only; rw [rlen_step p1 (by omega) q1]; omega⟩ ?_)
    rintro ⟨e, te⟩ u2 h9 tk9 - ⟨r1, r2, r3⟩ F' N'
    dsimp only at r1 r2 r3 F' ⊢
    simp only [kstB, List.contains_nil, Bool.false_eq_true, if_false] at F'
    clear lF' lN'
    (try k_unmd); (try k_fold)
    k_steps
    all_goals (try unfold Hold)
    · have q4 := rlen_stop (ns := ns) (e := e) (z := z) (by omega) (by omega) (by rename zof (ns.getD e.toNat 0) = none => q3; rw [q3]; exact fun h => nomatch h)
      rename News _ _ _ (_ :: _ :: _ :: _) => nN
      rename _ ∧ AllLt _ (tl ++ news) => l3
      have k9 : e = at_ + (runLen (ns.drop at_.toNat) : Nat) := by rw [q2]; omega
      rw [List.push_toArray] at nN
      refine ksw_end ⟨e, _, us ++ [.ref _], n + 1, (_, _) :: (_, _) :: tl, done ++ [(at_, e)]⟩ (by assumption) nN perm3 trivial (List.forall_mem_cons.mpr ⟨rfl, List.forall_mem_nil _⟩) (by ksw_same) ?_ ?_
      · dsimp only
        refine ⟨by omega, by omega, ?_, ?_, ?_, by rw [List.length_append]; simp only [List.length_cons, List.length_nil]; omega⟩
        · exact .snoc (p3.mono (fun p hp => List.mem_cons_of_mem _ (List.mem_cons_of_mem _ hp))) ⟨_, _, _, _, _, _, _, _, _, _, _, _, rfl, .head _, .tail _ (.head _)⟩
        · intro p hp
          rcases List.mem_cons.mp hp with rfl | hp
          · exact Nat.ne_of_gt (by omega)
          rcases List.mem_cons.mp hp with rfl | hp
          · exact Nat.ne_of_gt (by omega)
          exact p4 p hp
        · rw [List.append_assoc, ← p5, runs_yes (by rw [List.length_drop]; omega) (show 0 < runLen (ns.drop at_.toNat) by omega), List.drop_drop, ← k9, show at_.toNat + runLen (ns.drop at_.toNat) = e.toNat by omega]; rfl
      · dsimp only; omega
    · rename zof (ns.getD e.toNat 0) = some _ => q3
      rename _ = z => q5
      rw [q5] at q3
      have q4 := rlen_step (by omega) (by omega) q3
      refine ksw_end (_, _) (by assumption) (by assumption) (fun _ h => h) trivial (List.forall_mem_cons.mpr ⟨rfl, List.forall_mem_nil _⟩) (by ksw_same) ?_ ?_
      · dsimp only; refine ⟨by omega, by omega, ?_⟩; rw [r3, q4]; omega
      · dsimp only; omega
    · have q4 := rlen_stop (ns := ns) (e := e) (z := z) (by omega) (by omega) (by rename zof (ns.getD e.toNat 0) = some _ => q3; rename _ ≠ z => q5; rw [q3]; exact fun h => q5 (Option.some.inj h))
      rename News _ _ _ (_ :: _ :: _ :: _) => nN
      rename _ ∧ AllLt _ (tl ++ news) => l3
      have k9 : e = at_ + (runLen (ns.drop at_.toNat) : Nat) := by rw [q2]; omega
      rw [List.push_toArray] at nN
      refine ksw_end ⟨e, _, us ++ [.ref _], n + 1, (_, _) :: (_, _) :: tl, done ++ [(at_, e)]⟩ (by assumption) nN perm3 trivial (List.forall_mem_cons.mpr ⟨rfl, List.forall_mem_nil _⟩) (by ksw_same) ?_ ?_
      · dsimp only
        refine ⟨by omega, by omega, ?_, ?_, ?_, by rw [List.length_append]; simp only [List.length_cons, List.length_nil]; omega⟩
        · exact .snoc (p3.mono (fun p hp => List.mem_cons_of_mem _ (List.mem_cons_of_mem _ hp))) ⟨_, _, _, _, _, _, _, _, _, _, _, _, rfl, .head _, .tail _ (.head _)⟩
        · intro p hp
          rcases List.mem_cons.mp hp with rfl | hp
          · exact Nat.ne_of_gt (by omega)
          rcases List.mem_cons.mp hp with rfl | hp
          · exact Nat.ne_of_gt (by omega)
          exact p4 p hp
        · rw [List.append_assoc, ← p5, runs_yes (by rw [List.length_drop]; omega) (show 0 < runLen (ns.drop at_.toNat) by omega), List.drop_drop, ← k9, show at_.toNat + runLen (ns.drop at_.toNat) = e.toNat by omega]; rfl
      · dsimp only; omega
    · have q4 := rlen_end (ns := ns) (e := e) (z := z) (by omega)
      rename News _ _ _ (_ :: _ :: _ :: _) => nN
      rename _ ∧ AllLt _ (tl ++ news) => l3
      have k9 : e = at_ + (runLen (ns.drop at_.toNat) : Nat) := by rw [q2]; omega
      rw [List.push_toArray] at nN
      refine ksw_end ⟨e, _, us ++ [.ref _], n + 1, (_, _) :: (_, _) :: tl, done ++ [(at_, e)]⟩ (by assumption) nN perm3 trivial (List.forall_mem_cons.mpr ⟨rfl, List.forall_mem_nil _⟩) (by ksw_same) ?_ ?_
      · dsimp only
        refine ⟨by omega, by omega, ?_, ?_, ?_, by rw [List.length_append]; simp only [List.length_cons, List.length_nil]; omega⟩
        · exact .snoc (p3.mono (fun p hp => List.mem_cons_of_mem _ (List.mem_cons_of_mem _ hp))) ⟨_, _, _, _, _, _, _, _, _, _, _, _, rfl, .head _, .tail _ (.head _)⟩
        · intro p hp
          rcases List.mem_cons.mp hp with rfl | hp
          · exact Nat.ne_of_gt (by omega)
          rcases List.mem_cons.mp hp with rfl | hp
          · exact Nat.ne_of_gt (by omega)
          exact p4 p hp
        · rw [List.append_assoc, ← p5, runs_yes (by rw [List.length_drop]; omega) (show 0 < runLen (ns.drop at_.toNat) by omega), List.drop_drop, ← k9, show at_.toNat + runLen (ns.drop at_.toNat) = e.toNat by omega]; rfl
      · dsimp only; omega
  · have k1 : ns.drop at_.toNat = [] := List.drop_eq_nil_of_le (by omega)
    rw [k1, runs_nil, List.append_nil] at p5
    exact ret _ _ _ _ ⟨_, _, _, _, rfl, rfl, p5 ▸ p3, lfl⟩ (by assumption) (by assumption)
end
local macro_rules | `(tactic| walk_at "mine pad35") => `(tactic| skip)
local macro_rules | `(tactic| walk_at "mine pad36") => `(tactic| skip)
local macro_rules | `(tactic| walk_at "mine pad37") => `(tactic| skip)
--@M
local macro_rules | `(tactic| walk_at "call ref cons nil") => `(tactic| (k_here; (with_reducible show wpAny _ _ (call (Value.ref 145) _ _) _ _ _); k_dflt (refine' Spec.use ?B ?F ?X ?N ?T ?K (digit_runs_c _ _ _ _ _ ?hl ?h1 ?h2 ?h3) ?d ?u ?_; (case B => k_asm); (case F => k_asm); (case X => k_asm); (case N => k_asm); (case T => k_asm); (case K => first | exact rfl | assumption); (case hl => ktr_rel); (case h1 => first | assumption | exact IsData.mono (by assumption) (by first | exact fun _ h => h | (intro p hp; kcf_m))); (case h2 => first | assumption | exact alpha_slice (by assumption)); (case h3 => first | assumption | omega | (rw [List.length_take, List.length_drop]; omega)); (case d => ktr_room); (case u => ktr_units); k_whole); (intro v' nx' h' tk' O' F' N'; (obtain ⟨fl1, us1, n1, tl1, e2, e1, d1, l1⟩ := O'); subst nx'; subst e2); ((try k_lt l1); (try k_sweep); (try dsimp only); (try k_fold))))
--@E
theorem unit_i1_lawrun : True := by
  w_top off
  trivial
/-! ## _law_run -/
theorem zeroAt_zof (ns : List Int) (i : Int) : zeroAt ns i = if i < (ns.length : Int) then zof (ns.getD i.toNat 0) else none := rfl
theorem law_zero_d (w : World) (news : Led) (l : Addr) (ns : List Int) (i : Int) (ti : Tok) (hl : TL news l ns) (hn : ns.length < 100) (h0 : 0 ≤ i) (h1 : i < 200) :
    Spec w 320 [.ref l, .int i ti] 1 news (fun v nx => nx = news ∧ ((zeroAt ns i = none ∧ v = .none) ∨ ∃ z t, zeroAt ns i = some z ∧ v = .int z t)) := by
  refine (law_zero_c w news l ns i ti hl hn h0 h1).mono ?_
  rintro v nx ⟨e, h⟩
  refine ⟨e, ?_⟩
  cases hz : zeroAt ns i with
  | none => rw [hz] at h; exact .inl ⟨rfl, h⟩
  | some z => rw [hz] at h; obtain ⟨t, ht⟩ := h; exact .inr ⟨z, t, rfl, ht⟩
theorem zeroAt_lt {ns : List Int} {i z : Int} (h : zeroAt ns i = some z) : i < (ns.length : Int) ∧ zof (ns.getD i.toNat 0) = some z := by
  rw [zeroAt_zof] at h
  split at h
  · exact ⟨by assumption, h⟩
  · cases h
--@M
local macro_rules | `(tactic| walk_at "call ref cons nil") => `(tactic| (k_here; (with_reducible show wpAny _ _ (call (Value.ref 320) _ _) _ _ _); k_dflt (refine' Spec.use ?B ?F ?X ?N ?T ?K (law_zero_d _ _ _ _ _ _ ?hl ?h1 ?h2 ?h3) ?d ?u ?_; (case B => k_asm); (case F => k_asm); (case X => k_asm); (case N => k_asm); (case T => k_asm); (case K => first | exact rfl | assumption); (case hl => ktr_rel); (case h1 => first | assumption | omega); (case h2 => first | assumption | omega); (case h3 => first | assumption | omega); (case d => ktr_room); (case u => ktr_units); k_whole); (intro v' nx' h' tk' O' F' N'; (obtain ⟨e1, o1⟩ := O'); subst nx'; (rcases o1 with ⟨z1, e2⟩ | ⟨d1, t1, z1, e2⟩) <;> subst e2) <;> ((try (obtain ⟨z2, z3⟩ := zeroAt_lt z1)); (try k_sweep); (try dsimp only); (try k_fold))))
--@E
theorem tup2_e {a b c d : Int} {u v : Tok} (h : a = b) (k : c = d) : tup2 a u c v = tup2 b u d v := by rw [h, k]
theorem take_snoc {ns : List Int} {i e : Int} (h0 : 0 ≤ i) (h1 : i ≤ e) (h2 : e < (ns.length : Int)) : (ns.drop i.toNat).take (e + 1 - i).toNat = (ns.drop i.toNat).take (e - i).toNat ++ [ns.getD e.toNat 0] := by
  have hlt : e.toNat < ns.length := by omega
  have hl : (e - i).toNat < (ns.drop i.toNat).length := by rw [List.length_drop]; omega
  rw [show (e + 1 - i).toNat = (e - i).toNat + 1 by omega, List.take_succ_eq_append_getElem hl, List.getElem_drop]
  congr 2
  have e1 : i.toNat + (e - i).toNat = e.toNat := by omega
  simp [List.getD, e1, hlt]
theorem law_run_c (w : World) (news : Led) (l : Addr) (ns : List Int) (i : Int) (ti : Tok) (hl : TL news l ns) (hn : ns.length < 100) (h0 : 0 ≤ i) (h1 : i < 100) :
    Spec w 327 [.ref l, .int i ti] 2 news (fun v nx => ∃ T u1 u2, v = .ref T ∧ nx = (T, tup2 (i + (runLen (ns.drop i.toNat) : Nat)) u1 (decV ((ns.drop i.toNat).take (runLen (ns.drop i.toNat)))) u2) :: news ∧ ∀ p ∈ news, p.1 < T) := by
  intro mean mg mb dp un gd cn cs a ccd cl outer A₀ base h₀ L m s Q E B F X N T hk hd hu ret
  refine wpAny_call ?_
  k_dflt ktr_enter
  rename Fr _ _ _ _ => F0
  have F1 : Fr _ _ _ (fun y => List.lookup y [(Str.ofString "at", Value.int i ti), (Str.ofString "text", Value.ref l)]) := F0
  clear F0
  k_steps
  · rename zeroAt ns i = none => q1
    have q2 : runLen (ns.drop i.toNat) = 0 := by
      by_cases hi : i < (ns.length : Int)
      · rw [zeroAt_zof, if_pos hi] at q1; exact runLen_none h0 hi q1
      · exact runLen_end (by omega)
    unfold Hold
    rename Fr _ _ _ _ => lF'
    rename News _ _ _ _ => lN'
    k_dflt (refine ksw_while (σ := Unit) (fun _ => news) (fun _ => []) (fun _ => True) [] (fun _ => True) (fun _ => 0) () lF' (cb_drop lN' (fun p hp => List.mem_cons_of_mem _ hp)) trivial (List.forall_mem_nil _) trivial ?_)
    rintro ⟨⟩ u h tk - - F' N'
    dsimp only at F' ⊢
    simp only [kstB, List.contains_nil, Bool.false_eq_true, if_false] at F'
    clear lF' lN'
    (try k_unmd); (try k_fold)
    k_steps
    refine ret _ _ _ _ ⟨_, _, _, rfl, congrArg (fun q => (_, q) :: news) (tup2_e ?_ ?_), by assumption⟩ (by assumption) (by assumption)
    · omega
    · rw [q2]; rfl
  · rename zeroAt ns i = some _ => q0
    have q1 := zeroAt_lt q0
    have q2 := runLen_some h0 q1.1 q1.2
    unfold Hold
    rename Fr _ _ _ _ => lF'
    rename News _ _ _ _ => lN'
    rename_i z tz _ _ D0 h5 l5 h6 h7 h8
    k_dflt (refine ksw_while (σ := Int × Tok × Int × Tok) (fun _ => news) (fun c => [(Str.ofString "at", .int c.1 c.2.1), (Str.ofString "number", .int c.2.2.1 c.2.2.2)]) (fun _ => True) [] (fun c => i ≤ c.1 ∧ c.1 ≤ ns.length ∧ i + (rlen z (ns.drop i.toNat) : Nat) = c.1 + (rlen z (ns.drop c.1.toNat) : Nat) ∧ c.2.2.1 = decV ((ns.drop i.toNat).take (c.1 - i).toNat)) (fun c => ((ns.length : Int) - c.1).toNat) (i, _, 0, _) lF' (cb_drop lN' (fun p hp => List.mem_cons_of_mem _ hp)) trivial (List.forall_mem_cons.mpr ⟨rfl, List.forall_mem_cons.mpr ⟨rfl, List.forall_mem_nil _⟩⟩) ⟨Int.le_refl _, by dsimp only; omega, rfl, by simp [decV]⟩ ?_)
    rintro ⟨e, te, num, tn⟩ u h tk - ⟨p1, p2, p3, p4⟩ F' N'
    dsimp only at p1 p2 p3 p4 F' ⊢
    simp only [kstB, List.contains_nil, Bool.false_eq_true, if_false] at F'
    clear lF' lN'
    (try k_unmd); (try k_fold)
    k_steps
    all_goals (try unfold Hold)
    · rename zeroAt ns e = none => q3
      have q4 : rlen z (ns.drop e.toNat) = 0 := by
        by_cases he : e < (ns.length : Int)
        · rw [zeroAt_zof, if_pos he] at q3; exact rlen_stop (by omega) he (by rw [q3]; exact fun h => nomatch h)
        · exact rlen_end (by omega)
      rw [q4] at p3
      refine ret _ _ _ _ ⟨_, _, _, rfl, congrArg (fun q => (_, q) :: news) (tup2_e ?_ ?_), by assumption⟩ (by assumption) (by assumption)
      · omega
      · rw [p4, q2, show (e - i).toNat = rlen z (ns.drop i.toNat) by omega]
    · rename zof (ns.getD e.toNat 0) = some _ => q3
      rename _ = z => q5
      rw [q5] at q3
      have q4 := rlen_step (by omega) (by omega) q3
      refine ksw_end (_, _, _, _) (by assumption) (by assumption) (fun _ h => h) trivial (List.forall_mem_cons.mpr ⟨rfl, List.forall_mem_cons.mpr ⟨rfl, List.forall_mem_nil _⟩⟩) (by ksw_same) ?_ ?_
      · dsimp only; refine ⟨by omega, by omega, ?_, ?_⟩
        · rw [p3, q4]; omega
        · rw [take_snoc h0 p1 (by omega), decV_snoc, val_of q3, p4]; omega
      · dsimp only; omega
    · rename zof (ns.getD e.toNat 0) = some _ => q3
      rename _ ≠ z => q5
      have q4 := rlen_stop (ns := ns) (e := e) (z := z) (by omega) (by omega) (by rw [q3]; exact fun h => q5 (Option.some.inj h))
      rw [q4] at p3
      refine ret _ _ _ _ ⟨_, _, _, rfl, congrArg (fun q => (_, q) :: news) (tup2_e ?_ ?_), by assumption⟩ (by assumption) (by assumption)
      · omega
      · rw [p4, q2, show (e - i).toNat = rlen z (ns.drop i.toNat) by omega]
--@M
local macro_rules | `(tactic| walk_at "call ref cons nil") => `(tactic| (k_here; (with_reducible show wpAny _ _ (call (Value.ref 327) _ _) _ _ _); k_dflt (refine' Spec.use ?B ?F ?X ?N ?T ?K (law_run_c _ _ _ _ _ _ ?hl ?h1 ?h2 ?h3) ?d ?u ?_; (case B => k_asm); (case F => k_asm); (case X => k_asm); (case N => k_asm); (case T => k_asm); (case K => first | exact rfl | assumption); (case hl => ktr_rel); (case h1 => first | assumption | omega); (case h2 => first | assumption | omega); (case h3 => first | assumption | omega); (case d => ktr_room); (case u => ktr_units); k_whole); (intro v' nx' h' tk' O' F' N'; (obtain ⟨T1, u1, u2, e2, e1, l1⟩ := O'); subst nx'; subst e2); ((try k_lt l1); (try k_sweep); (try dsimp only); (try k_fold))))
--@E
theorem unit_i2_lawlow : True := by
  w_top off
  trivial
/-! ## _law_lowest -/
--@M
local macro_rules | `(tactic| walk_at "mine enterC") => `(tactic| (refine' code_defC ?k1 ?k2 ?k3 ?k4 ?k5 ?kA ?kF ?kK ?k6 ?k7 ?k8 ?k9 ?kB ?kD ?_ ?c2 ?c3 ?c4; (case kA => exact rfl); (case kF => exact rfl); (case kK => assumption); (case k1 => k_asm); (case k2 => k_asm); (case k3 => k_asm); (case k4 => k_asm); (case k5 => k_asm); (case k6 => k_is); (case k7 => k_is); (case k8 => ktr_room); (case k9 => exact BindsTo.of_eq rfl); (case kB => exact rfl); (case kD => decide +kernel); (case c2 => exact rfl); (case c3 => exact rfl); (case c4 => exact rfl); k_whole; intro g' L' h' tk' cells' FG' F' N' Y' B' X' T' l1; (try k_lt l1); k_cells Y'; (try simp only [List.cons_append, List.nil_append] at N'); (try dsimp only); (try k_fold)))
--@E
def lowG (a b : Int) (l : List Int) (k : Int) : List Int := if a.fmod k = 0 ∧ b.fmod k = 0 then l ++ [k] else l
theorem lowG_mem {a b : Int} : ∀ (ks l : List Int) (x : Int), x ∈ ks.foldl (lowG a b) l ↔ x ∈ l ∨ (x ∈ ks ∧ a.fmod x = 0 ∧ b.fmod x = 0)
  | [], l, x => by simp
  | k :: ks, l, x => by
    rw [List.foldl_cons, lowG_mem ks, lowG]
    by_cases h : a.fmod k = 0 ∧ b.fmod k = 0
    · rw [if_pos h, List.mem_append, List.mem_singleton, List.mem_cons]
      constructor
      · rintro ((h1 | rfl) | h1)
        · exact .inl h1
        · exact .inr ⟨.inl rfl, h⟩
        · exact .inr ⟨.inr h1.1, h1.2⟩
      · rintro (h1 | ⟨rfl | h1, h2⟩)
        · exact .inl (.inl h1)
        · exact .inl (.inr rfl)
        · exact .inr ⟨h1, h2⟩
    · rw [if_neg h, List.mem_cons]
      constructor
      · rintro (h1 | h1)
        · exact .inl h1
        · exact .inr ⟨.inr h1.1, h1.2⟩
      · rintro (h1 | ⟨rfl | h1, h2⟩)
        · exact .inl h1
        · exact absurd h2 h
        · exact .inr ⟨h1, h2⟩
theorem fmod_dvd {a k : Int} (hk : 0 < k) : a.fmod k = 0 ↔ k ∣ a := by
  rw [Int.fmod_eq_emod_of_nonneg _ (by omega)]; exact Int.dvd_iff_emod_eq_zero.symm
theorem low_max {a b M : Int} {n : Nat} (hb : 0 < b) (hn : (n : Int) = b) (h1 : M ∈ (rangeKs 1 n).foldl (lowG a b) []) (h2 : ∀ x, x ∈ (rangeKs 1 n).foldl (lowG a b) [] → x ≤ M) : M = (Int.gcd a b : Nat) := by
  rw [lowG_mem] at h1
  have hg := gcd_bd a hb
  rcases h1 with h1 | ⟨h1, h3, h4⟩
  · cases h1
  · have hM := mem_rangeKs h1
    rw [fmod_dvd (by omega)] at h3 h4
    have h5 : M ∣ (Int.gcd a b : Nat) := Int.dvd_coe_gcd h3 h4
    have h6 := Int.le_of_dvd hg.1 h5
    have h7 : ((Int.gcd a b : Nat) : Int) ≤ M := by
      refine h2 _ ((lowG_mem _ _ _).mpr (.inr ⟨?_, ?_, ?_⟩))
      · unfold rangeKs
        refine List.mem_map.mpr ⟨Int.gcd a b - 1, List.mem_range.mpr (by omega), by omega⟩
      · rw [fmod_dvd hg.1]; exact Int.gcd_dvd_left ..
      · rw [fmod_dvd hg.1]; exact Int.gcd_dvd_right ..
    omega
section
local macro_rules | `(tactic| walk_at "CompSrcT") => `(tactic| (refine hold ?_))
local macro_rules | `(tactic| walk_at "CompEnd") => `(tactic| (refine hold ?_))
local macro_rules | `(tactic| walk_at "call builtin:max cons nil") => `(tactic| (refine hold ?_))
theorem law_lowest_c (w : World) (news : Led) (a b : Int) (ta tb : Tok) (h0 : 0 ≤ a) (hb : 0 < b) (hb2 : b < 1000) :
    Spec w 332 [.int a ta, .int b tb] 2 news (fun v nx => ∃ T u1 u2, v = .ref T ∧ nx = (T, tup2 (lowP a b).1 u1 (lowP a b).2 u2) :: news ∧ ∀ p ∈ news, p.1 < T) := by
  intro mean mg mb dp un gd cn cs a0 ccd cl outer A₀ base h₀ L m s Q E B F X N T hk hd hu ret
  refine wpAny_call ?_
  k_dflt walk_at "mine enterC"
  k_steps
  unfold Hold
  k_dflt (refine LCt.CompSrcT.range (by rfl) (by k_asm) (by k_asm) (by assumption) (small_one (by omega) (by omega) (by omega) (by omega)) (rangeSize_nat _ _) (by rw [PySem.sizeLine_eq]; omega) ?_)
  intro g
  refine kci_range (lowG a b) (fun k t I oI C oC D m₂ ys l h tk E' hlo hhi hI hC hx F N off ne hm => ?_) ?_ ?_
  · k_steps
    all_goals (try unfold Hold)
    · exact LCg.CompEnd.intro (by assumption) N _ (fun _ h => h) off True.intro ⟨rfl, k, t, rfl, by unfold lowG; rw [if_pos ⟨by assumption, by assumption⟩]⟩
    · rename ¬ b.fmod k = 0 => q1
      exact LCg.CompEnd.intro (by assumption) N _ (fun _ h => h) off True.intro ⟨rfl, by unfold lowG; rw [if_neg (fun h => q1 h.2)]⟩
    · rename ¬ a.fmod k = 0 => q1
      exact LCg.CompEnd.intro (by assumption) N _ (fun _ h => h) off True.intro ⟨rfl, by unfold lowG; rw [if_neg (fun h => q1 h.1)]⟩
  · intro ys hy hlen
    k_steps
    unfold Hold
    rename News _ _ _ _ => nN
    rename Fr _ _ _ _ => nF
    have hg := gcd_bd a hb
    have hin : ((Int.gcd a b : Nat) : Int) ∈ (rangeKs 1 (b + 1 - 1).toNat).foldl (lowG a b) [] := by
      refine (lowG_mem _ _ _).mpr (.inr ⟨?_, ?_, ?_⟩)
      · unfold rangeKs
        refine List.mem_map.mpr ⟨Int.gcd a b - 1, List.mem_range.mpr (by omega), by omega⟩
      · rw [fmod_dvd hg.1]; exact Int.gcd_dvd_left ..
      · rw [fmod_dvd hg.1]; exact Int.gcd_dvd_right ..
    k_dflt (refine max_list_N rfl nF nN ⟨_, (nN _ (.head _)).1, rfl, _, rfl⟩ hy (List.length_pos_iff.mpr (List.ne_nil_of_mem hin)) ?_)
    intro h2 M tM tk2 F2 N2 hM hle
    have hMe := low_max hb (by omega) hM hle
    subst hMe
    clear nF nN
    k_steps
    exact ret _ _ _ _ ⟨_, _, _, rfl, rfl, by rename _ ∧ _ => q9; exact ktn_ltOf q9.2.2.2⟩ (by assumption) (cb_drop (by assumption) (by kcf_all))
  · intro l k; unfold lowG; split <;> simp
end
local macro_rules | `(tactic| walk_at "mine pad38") => `(tactic| skip)
local macro_rules | `(tactic| walk_at "mine pad39") => `(tactic| skip)
local macro_rules | `(tactic| walk_at "mine pad40") => `(tactic| skip)
local macro_rules | `(tactic| walk_at "mine pad41") => `(tactic| skip)
--@M
local macro_rules | `(tactic| walk_at "call ref cons nil") => `(tactic| (k_here; (with_reducible show wpAny _ _ (call (Value.ref 332) _ _) _ _ _); k_dflt (refine' Spec.use ?B ?F ?X ?N ?T ?K (law_lowest_c _ _ _ _ _ _ ?h0 ?hb ?hc) ?d ?u ?_; (case B => k_asm); (case F => k_asm); (case X => k_asm); (case N => k_asm); (case T => k_asm); (case K => first | exact rfl | assumption); (case h0 => first | assumption | omega); (case hb => omega); (case hc => omega); (case d => ktr_room); (case u => ktr_units); k_whole); (intro v' nx' h' tk' O' F' N'; (obtain ⟨T1, t1, t2, e2, e1, l1⟩ := O'); subst nx'; subst e2); (try k_lt l1); (try k_sweep); (try dsimp only); (try k_fold)))
--@E
theorem unit_i35_met : True := by
  w_top off
  trivial
--@nofill
/-! ## what the law's own look tells -/
/-- what the law's own look tells of the number at a text's head -/
def metVal (s : List Int) : Option (Int × Int) :=
  if numLen s = 0 then none
  else if 0 < runLen s ∧ (s.drop (runLen s)).head? = some 8260 ∧ runLen s < numLen s ∧ 1000 ≤ decV ((s.drop (runLen s + 1)).take (runLen (s.drop (runLen s + 1)))) then none
  else some (fracV (s.take (numLen s)))
def optD : Option (Int × Int) → Dat
  | some p => dPair p.1 p.2
  | none => .none
abbrev metO (e : Int) (u : Tok) (x : Value) : Obj := { cls := .type "tuple", data := .seq #[Value.int e u, x] }
def MOut (news : Led) (i : Int) (s : List Int) (v : Value) (nx : Led) : Prop :=
  ∃ (T : Addr) (u : Tok), v = .ref T ∧ (∀ p ∈ news, p.1 < T) ∧ ((metVal s = none ∧ nx = (T, metO (i + (numLen s : Nat)) u .none) :: news) ∨
    ∃ (p : Int × Int) (T2 : Addr) (u1 u2 : Tok), metVal s = some p ∧ nx = (T, metO (i + (numLen s : Nat)) u (.ref T2)) :: (T2, tup2 p.1 u1 p.2 u2) :: news ∧ ∀ p ∈ news, p.1 < T2)
theorem met_run {s : List Int} (hr : runLen s ≠ 0) (hn : numLen s = runLen s) : metVal s = some (decV (s.take (runLen s)), 1) := by
  unfold metVal
  rw [if_neg (by omega), if_neg (fun h => by omega), hn]
  unfold fracV
  rw [runLen_take (Nat.le_refl _), if_neg hr]
  simp
theorem met_end {s : List Int} (hr : runLen s ≠ 0) (hd : s.drop (runLen s) = []) : numLen s = runLen s := by
  unfold numLen; rw [if_neg hr, hd]
theorem met_sgn {s t : List Int} {d : Int} {p : Int × Int} (hr : runLen s ≠ 0) (hd : s.drop (runLen s) = d :: t) (hs : sgn d = some p) : numLen s = if 0 < p.1 ∧ p.1 < p.2 then runLen s + 1 else runLen s := by
  unfold numLen; rw [if_neg hr, hd]; simp only [hs]
theorem met_non {s t : List Int} {d : Int} (hr : runLen s ≠ 0) (hd : s.drop (runLen s) = d :: t) (hs : sgn d = none) :
    numLen s = if d = 8260 ∧ 0 < runLen t ∧ t.head?.bind zof = s.head?.bind zof ∧ decV (t.take (runLen t)) ≠ 0 then runLen s + 1 + runLen t else runLen s := by
  conv => lhs; unfold numLen
  rw [if_neg hr, hd]; simp only [hs]
theorem met_sgnV {s t : List Int} {d : Int} {p : Int × Int} (hr : runLen s ≠ 0) (hd : s.drop (runLen s) = d :: t) (hs : sgn d = some p) (h1 : 0 < p.1) (h2 : p.1 < p.2) : numLen s = runLen s + 1 ∧ metVal s = some (lowP (decV (s.take (runLen s)) * p.2 + p.1) p.2) := by
  have hn := met_sgn hr hd hs
  rw [if_pos ⟨h1, h2⟩] at hn
  refine ⟨hn, ?_⟩
  unfold metVal
  rw [if_neg (by omega), if_neg, hn]
  · unfold fracV
    rw [runLen_take (by omega), if_neg hr, List.drop_take, hd, show runLen s + 1 - runLen s = 1 by omega, List.take_succ_cons, List.take_zero]
    simp only [hs]
    rw [List.take_take, Nat.min_eq_left (by omega), Int.mul_one, Int.one_mul]
  · rintro ⟨_, h, _⟩
    rw [hd] at h
    simp only [List.head?_cons, Option.some.injEq] at h
    rw [h] at hs; cases hs
theorem met_slashV {s t : List Int} (hr : runLen s ≠ 0) (hd : s.drop (runLen s) = 8260 :: t) (h1 : 0 < runLen t) (h2 : t.head?.bind zof = s.head?.bind zof) (h3 : decV (t.take (runLen t)) ≠ 0) :
    numLen s = runLen s + 1 + runLen t ∧ (1000 ≤ decV (t.take (runLen t)) → metVal s = none) ∧ (decV (t.take (runLen t)) < 1000 → metVal s = some (lowP (decV (s.take (runLen s))) (decV (t.take (runLen t))))) := by
  have hn := met_non hr hd rfl
  rw [if_pos ⟨rfl, h1, h2, h3⟩] at hn
  have hdd : s.drop (runLen s + 1) = t := by rw [← List.drop_drop, hd]; rfl
  refine ⟨hn, fun h => ?_, fun h => ?_⟩
  · unfold metVal
    rw [if_neg (by omega), if_pos ⟨by omega, by rw [hd]; rfl, by omega, by rw [hdd]; exact h⟩]
  · unfold metVal
    rw [if_neg (by omega), if_neg (by rw [hdd]; intro h9; omega), hn]
    unfold fracV
    rw [runLen_take (by omega), if_neg hr, List.drop_take, hd, show runLen s + 1 + runLen t - runLen s = runLen t + 1 by omega, List.take_succ_cons]
    simp only [show sgn 8260 = none from rfl]
    rw [List.take_take, Nat.min_eq_left (by omega)]
theorem met_sgn0 {c : Int} {r : List Int} {p : Int × Int} (hr : runLen (c :: r) = 0) (hs : sgn c = some p) : numLen (c :: r) = 1 ∧ metVal (c :: r) = some p := by
  have hn : numLen (c :: r) = 1 := by unfold numLen; rw [if_pos hr]; simp only [hs, Option.isSome_some, if_true]
  refine ⟨hn, ?_⟩
  unfold metVal
  rw [if_neg (by omega), if_neg (fun h => by omega), hn]
  unfold fracV
  rw [List.take_succ_cons, List.take_zero, if_pos (by rw [runLen, sgn_zof hs])]
  simp only [hs]; rfl
theorem met_no {c : Int} {r : List Int} (hr : runLen (c :: r) = 0) (hs : sgn c = none) : numLen (c :: r) = 0 ∧ metVal (c :: r) = none := by
  have hn : numLen (c :: r) = 0 := by unfold numLen; rw [if_pos hr]; simp only [hs]; rfl
  exact ⟨hn, by unfold metVal; rw [if_pos hn]⟩
theorem mout_none {news : Led} {i e : Int} {s : List Int} {D : Addr} {u : Tok} (he : e = i + (numLen s : Nat)) (hv : metVal s = none) (hl : ∀ p ∈ news, p.1 < D) : MOut news i s (.ref D) ((D, metO e u .none) :: news) :=
  ⟨D, u, rfl, hl, .inl ⟨hv, by rw [he]⟩⟩
theorem mout_pair {news : Led} {i e : Int} {s : List Int} {D T2 : Addr} {u u1 u2 : Tok} {p : Int × Int} (he : e = i + (numLen s : Nat)) (hv : metVal s = some p) (hl : ∀ p ∈ news, p.1 < D) (hl2 : ∀ p ∈ news, p.1 < T2) :
    MOut news i s (.ref D) ((D, metO e u (.ref T2)) :: (T2, tup2 p.1 u1 p.2 u2) :: news) :=
  ⟨D, u, rfl, hl, .inr ⟨p, T2, u1, u2, hv, by rw [he], hl2⟩⟩
theorem unit_i3_signs : True := by
  w_top off
  trivial
/-! ## _law_signs -/
def IsSigns (w : World) (news : Led) (D : Addr) : Prop :=
  ∃ (o : Obj) (kvs : List (Int × Value)), (D, o) ∈ news ∧ (D == sysModules) = false ∧ o.IsDictOf (PySem.intKind PP w) kvs ∧
    ∀ c : Int, match sgn c with
      | some p => ∃ (T : Addr) (u1 u2 : Tok), valueAt kvs c = some (.ref T) ∧ (T, tup2 p.1 u1 p.2 u2) ∈ news ∧ @LT.lt Nat _ D T
      | none => valueAt kvs c = none
theorem rot {α : Type} {x : α} (tl r : List α) : ∀ p ∈ x :: (tl ++ r), p ∈ tl ++ x :: r := by
  intro p hp
  simp only [List.mem_cons, List.mem_append] at hp ⊢
  rcases hp with h | h | h
  · exact .inr (.inl h)
  · exact .inl h
  · exact .inr (.inr h)
theorem signs_of {news : Led} {D T0 T1 T2 T3 T4 T5 T6 T7 : Addr} {a0 b0 a1 b1 a2 b2 a3 b3 a4 b4 a5 b5 a6 b6 a7 b7 : Tok} (h0 : (T0, tup2 1 a0 2 b0) ∈ news) (h1 : (T1, tup2 1 a1 5 b1) ∈ news) (h2 : (T2, tup2 7 a2 2 b2) ∈ news) (h3 : (T3, tup2 5 a3 1 b3) ∈ news) (h4 : (T4, tup2 2 a4 1 b4) ∈ news) (h5 : (T5, tup2 0 a5 1 b5) ∈ news) (h6 : (T6, tup2 (-1) a6 2 b6) ∈ news) (h7 : (T7, tup2 7 a7 8 b7) ∈ news) (g0 : @LT.lt Nat _ D T0) (g1 : @LT.lt Nat _ D T1) (g2 : @LT.lt Nat _ D T2) (g3 : @LT.lt Nat _ D T3) (g4 : @LT.lt Nat _ D T4) (g5 : @LT.lt Nat _ D T5) (g6 : @LT.lt Nat _ D T6) (g7 : @LT.lt Nat _ D T7) :
    ∀ c : Int, match sgn c with
      | some p => ∃ (T : Addr) (u1 u2 : Tok), valueAt [((189 : Int), Value.ref T0), ((8533 : Int), Value.ref T1), ((3884 : Int), Value.ref T2), ((8548 : Int), Value.ref T3), ((178 : Int), Value.ref T4), ((12295 : Int), Value.ref T5), ((3891 : Int), Value.ref T6), ((8542 : Int), Value.ref T7)] c = some (.ref T) ∧ (T, tup2 p.1 u1 p.2 u2) ∈ news ∧ @LT.lt Nat _ D T
      | none => valueAt [((189 : Int), Value.ref T0), ((8533 : Int), Value.ref T1), ((3884 : Int), Value.ref T2), ((8548 : Int), Value.ref T3), ((178 : Int), Value.ref T4), ((12295 : Int), Value.ref T5), ((3891 : Int), Value.ref T6), ((8542 : Int), Value.ref T7)] c = none := by
  intro c
  by_cases c0 : c = 189
  · subst c0; exact ⟨_, _, _, rfl, h0, g0⟩
  by_cases c1 : c = 8533
  · subst c1; exact ⟨_, _, _, rfl, h1, g1⟩
  by_cases c2 : c = 3884
  · subst c2; exact ⟨_, _, _, rfl, h2, g2⟩
  by_cases c3 : c = 8548
  · subst c3; exact ⟨_, _, _, rfl, h3, g3⟩
  by_cases c4 : c = 178
  · subst c4; exact ⟨_, _, _, rfl, h4, g4⟩
  by_cases c5 : c = 12295
  · subst c5; exact ⟨_, _, _, rfl, h5, g5⟩
  by_cases c6 : c = 3891
  · subst c6; exact ⟨_, _, _, rfl, h6, g6⟩
  by_cases c7 : c = 8542
  · subst c7; exact ⟨_, _, _, rfl, h7, g7⟩
  have hs : sgn c = none := by unfold sgn; rw [if_neg c0, if_neg c1, if_neg c2, if_neg c3, if_neg c4, if_neg c5, if_neg c6, if_neg c7]
  rw [hs]
  unfold valueAt
  simp only [List.find?_cons, List.find?_nil, Ne.symm c0, Ne.symm c1, Ne.symm c2, Ne.symm c3, Ne.symm c4, Ne.symm c5, Ne.symm c6, Ne.symm c7, decide_false, Option.map_none]
section
local macro_rules | `(tactic| k_all) => `(tactic| first | assumption | exact fun p hp => Nat.ne_of_lt ((by assumption : ∀ p ∈ _, p.1 < _) p hp))
local macro_rules | `(tactic| walk_at "eval Dict cons cons") => `(tactic| (k_here; k_dflt (refine' kdn_int ?q ?F ?N ?b ?a ?l ?e ?n ?_; (case q => rfl); (case F => k_asm); (case N => k_asm); (case b => exact Top.nolimit (by k_asm)); (case a => rfl); (case l => rfl); (case e => exact List.cons_ne_nil _ _); (case n => exact Nat.le_of_ble_eq_true rfl)); intro d' h' o' F' N' l1 lo' hd'; (try k_lt l1)))
local macro_rules | `(tactic| walk_at "KdnMade") => `(tactic| (k_here; k_dflt ((refine' kdn_made_int ?F ?N ?U ?d ?k ?n ?_; (case F => k_asm); (case N => k_asm); (case U => k_updF); (case d => k_asm); (case k => rfl); (case n => exact of_decide_eq_true (by first | rfl | kernel_rfl!)); intro h' o' F' N' hd')); (try dsimp only at N')))
theorem law_signs_c (w : World) (news : Led) :
    Spec w 291 [] 1 news (fun v nx => ∃ D o tl, v = .ref D ∧ nx = (D, o) :: (tl ++ news) ∧ IsSigns w nx D ∧ ∀ p ∈ news, p.1 < D) := by
  intro mean mg mb dp un gd cn cs a ccd cl outer A₀ base h₀ L m s Q E B F X N T hk hd hu ret
  refine wpAny_call ?_
  k_dflt ktr_enter
  rename Fr _ _ _ _ => F0
  have F1 : Fr _ _ _ (fun y => List.lookup y ([] : List (Str × Value))) := F0
  clear F0
  k_steps
  rename News _ _ _ _ => nN
  refine ret _ _ _ _ ⟨_, _, [_, _, _, _, _, _, _, _], rfl, rfl, ⟨_, _, .head _, by assumption, by assumption, ?_⟩, by assumption⟩ (by assumption) (cb_drop nN (rot [_, _, _, _, _, _, _, _] news))
  exact signs_of (by refine List.mem_cons_of_mem _ ?_; kcf_m) (by refine List.mem_cons_of_mem _ ?_; kcf_m) (by refine List.mem_cons_of_mem _ ?_; kcf_m) (by refine List.mem_cons_of_mem _ ?_; kcf_m) (by refine List.mem_cons_of_mem _ ?_; kcf_m) (by refine List.mem_cons_of_mem _ ?_; kcf_m) (by refine List.mem_cons_of_mem _ ?_; kcf_m) (by refine List.mem_cons_of_mem _ ?_; kcf_m) (by omega) (by omega) (by omega) (by omega) (by omega) (by omega) (by omega) (by omega)
end
local macro_rules | `(tactic| walk_at "mine pad42") => `(tactic| skip)
local macro_rules | `(tactic| walk_at "mine pad43") => `(tactic| skip)
local macro_rules | `(tactic| walk_at "mine pad44") => `(tactic| skip)
local macro_rules | `(tactic| walk_at "mine pad45") => `(tactic| skip)
theorem unit_i4_lawmet : True := by
  w_top off
  trivial
/-! ## _law_met -/
theorem IsSigns.mono {w : World} {news news' : Led} {D : Addr} (h : IsSigns w news D) (s : ∀ p ∈ news, p ∈ news') : IsSigns w news' D := by
  obtain ⟨o, kvs, a, b, c, d⟩ := h
  refine ⟨o, kvs, s _ a, b, c, fun k => ?_⟩
  have := d k
  split
  · rename_i p hp; rw [hp] at this; obtain ⟨T, u1, u2, e, m, g⟩ := this; exact ⟨T, u1, u2, e, s _ m, g⟩
  · rename_i hp; rw [hp] at this; exact this
section
variable {w : World} {A : Around} {E : Value → Shared → Prop} {s : Shared} {h₀ : Heap} {L D : Addr} {cur : Led} {c : Int} {t : Tok}
theorem sg_in {Q : Value → Shared → Prop} (N : News h₀ L s.heap cur) (S : IsSigns w cur D) (h : Q (.bool (sgn c).isSome) { s with toks := s.toks + 1 }) : wpAny (model PP w) A (compareOp .In (.int c t) (.ref D)) Q E s := by
  obtain ⟨o, kvs, m, lo, hd, hv⟩ := S
  refine kda_in N m hd lo (intKind_is _ _ _ _) (sgn c).isSome ?_ h
  have := hv c
  split at this
  · rename_i p hp; obtain ⟨T, u1, u2, e, _⟩ := this; rw [e, hp]; rfl
  · rename_i hp; rw [this, hp]; rfl
theorem sg_item {value slice : PySem.Expr} {Q : Value → Shared → Prop} (N : News h₀ L s.heap cur) (S : IsSigns w cur D) (hc : (sgn c).isSome = true)
    (h : ∀ p T u1 u2, sgn c = some p → (T, tup2 p.1 u1 p.2 u2) ∈ cur → @LT.lt Nat _ D T → Q (.ref T) { s with toks := s.toks + 1 })
    (hs : subscripted slice false (.ref D) (.int c t) = operate [.ref D, .int c t] (getItem (.ref D) (.int c t)) := by with_unfolding_all rfl) (hg : ∀ r, letTemporaryGo value (.ref D) r = pure () := by intro _; with_unfolding_all rfl) :
    wpAny (model PP w) A (subscriptTail value slice (.ref D) (.int c t)) Q E s := by
  obtain ⟨o, kvs, m, lo, hd, hv⟩ := S
  have := hv c
  split at this
  · rename_i p hp
    obtain ⟨T, u1, u2, e, mT, g⟩ := this
    exact kda_item N m hd (intKind_is _ _ _ _) e (h p T u1 u2 hp mT g) hs hg
  · rename_i hp; rw [hp] at hc; cases hc
theorem sg_method {pl : Sem Bool} {Q : Value × List Value → Shared → Prop} (N : News h₀ L s.heap cur) (S : IsSigns w cur D) (h : Q (.builtin "dict.get", [.ref D]) s) : wpAny (model PP w) A (getMethod (.ref D) "get" pl) Q E s := by
  obtain ⟨o, kvs, m, lo, hd, hv⟩ := S
  exact kdg_method N m hd h
theorem sg_get {dflt : Value} {Q : Value → Shared → Prop} (N : News h₀ L s.heap cur) (S : IsSigns w cur D)
    (h1 : ∀ p T u1 u2, sgn c = some p → (T, tup2 p.1 u1 p.2 u2) ∈ cur → Q (.ref T) { s with toks := s.toks + 1 }) (h2 : sgn c = none → Q dflt { s with toks := s.toks + 1 }) :
    wpAny (model PP w) A (call (.builtin "dict.get") [.ref D, .int c t, dflt]) Q E s := by
  obtain ⟨o, kvs, m, lo, hd, hv⟩ := S
  have := hv c
  refine kdg_get2 N m hd lo (intKind_is _ _ _ _) _ rfl ?_
  split at this
  · rename_i p hp; obtain ⟨T, u1, u2, e, mT, _⟩ := this; rw [e]; exact h1 p T u1 u2 hp mT
  · rename_i hp; rw [this]; exact h2 hp
end
theorem dec_run_nn (s : List Int) : 0 ≤ decV (s.take (runLen s)) := by
  by_cases h : 0 < runLen s
  · obtain ⟨z, _, hz⟩ := run_all h
    exact (decV_bd _ (fun c hc => by rw [hz c hc]; rfl)).1
  · rw [show runLen s = 0 by omega]; exact Int.le_refl _
theorem low_nonneg {x a b : Int} (h : 0 ≤ x) (ha : 0 < a) (hb : a < b) : 0 ≤ x * b + a := by
  have := Int.mul_nonneg h (show 0 ≤ b by omega); omega
theorem sg_slash_no {c : Int} {p : Int × Int} (h : sgn c = some p) (e : c = 8260) : False := by rw [e] at h; cases h
theorem sg_zero_no {p : Int × Int} (h : sgn 0 = some p) : False := by cases h
theorem law_zero_k (w : World) (news : Led) (l : Addr) (ns : List Int) (i z : Int) (ti : Tok) (hl : TL news l ns) (hn : ns.length < 100) (h0 : 0 ≤ i) (h1 : i < 200) (hz : zeroAt ns i = some z) :
    Spec w 320 [.ref l, .int i ti] 1 news (fun v nx => nx = news ∧ ∃ t, v = .int z t) := by
  refine (law_zero_d w news l ns i ti hl hn h0 h1).mono ?_
  rintro v nx ⟨e, ⟨h, _⟩ | ⟨z', t, h, e2⟩⟩
  · rw [hz] at h; cases h
  · rw [hz] at h; cases h; exact ⟨e, t, e2⟩
theorem eq_yes {prog : Program} {w : World} {A : Around} {E : Value → Shared → Prop} {s : Shared} {a b : Int} {t u : Tok} {Q : Value → Shared → Prop} (e : a = b) (h : Q (.bool true) s) : wpAny (model prog w) A (compareOp .Eq (.int a t) (.int b u)) Q E s :=
  PyProof.Rows.eq_int (by rw [show (a == b) = true from beq_iff_eq.mpr e]; exact h)
theorem eq_no {prog : Program} {w : World} {A : Around} {E : Value → Shared → Prop} {s : Shared} {a b : Int} {t u : Tok} {Q : Value → Shared → Prop} (e : a ≠ b) (h : Q (.bool false) s) : wpAny (model prog w) A (compareOp .Eq (.int a t) (.int b u)) Q E s :=
  PyProof.Rows.eq_int (by rw [show (a == b) = false from beq_eq_false_iff_ne.mpr e]; exact h)
--@M
local macro_rules | `(tactic| walk_at "mine lt") => `(tactic| (rename _ ∧ _ => q9; first | exact fun p hp => ktn_ltOf q9.2 p (by kcf_m) | exact fun p hp => ktn_ltOf q9.2.2 p (by kcf_m) | exact fun p hp => ktn_ltOf q9.2.2.2 p (by kcf_m) | exact fun p hp => ktn_ltOf q9.2.2.2.2 p (by kcf_m) | exact fun p hp => ktn_ltOf q9.2.2.2.2.2 p (by kcf_m)))
local macro_rules | `(tactic| walk_at "compareOp Eq int int") => `(tactic| (k_here; first | with_reducible refine eq_yes (by omega) ?_ | with_reducible refine eq_no (by omega) ?_))
local macro_rules | `(tactic| walk_at "call ref") => `(tactic| (k_here; (with_reducible show wpAny _ _ (call (Value.ref 291) _ _) _ _ _); k_dflt (refine' Spec.use ?B ?F ?X ?N ?T ?K (law_signs_c _ _) ?d ?u ?_; (case B => k_asm); (case F => k_asm); (case X => k_asm); (case N => k_asm); (case T => k_asm); (case K => first | exact rfl | assumption); (case d => ktr_room); (case u => ktr_units); k_whole); (intro v' nx' h' tk' O' F' N'; (obtain ⟨D1, o1, tl1, e2, e1, s1, l1⟩ := O'); subst nx'; subst e2); ((try k_lt l1); (try k_sweep); (try dsimp only); (try k_fold))))
local macro_rules | `(tactic| walk_at "mine sg") => `(tactic| first | assumption | exact IsSigns.mono (by assumption) (by intro p hp; kcf_m))
--@E
section
local macro_rules | `(tactic| walk_at "compareOp In int ref") => `(tactic| (k_here; k_dflt (refine sg_in (by k_asm) (by walk_at "mine sg") ?_)))
local macro_rules | `(tactic| walk_at "subscriptTail Name Subscript ref int") => `(tactic| (k_here; k_dflt (refine' sg_item ?N ?S ?c ?_ ?s ?g; (case N => k_asm); (case S => walk_at "mine sg"); (case c => assumption); (case s => with_unfolding_all rfl); (case g => intro _; with_unfolding_all rfl); k_whole); intro p' T' u1' u2' q1' m1' g1'))
local macro_rules | `(tactic| walk_at "getMethod ref") => `(tactic| (k_here; k_dflt (refine sg_method (by k_asm) (by walk_at "mine sg") ?_)))
local macro_rules | `(tactic| walk_at "call builtin:dict.get") => `(tactic| (k_here; k_dflt (refine sg_get (by k_asm) (by walk_at "mine sg") ?_ ?_) <;> (first | (intro p' T' u1' u2' q1' m1'; first | exact (sg_slash_no q1' (by assumption)).elim | exact (sg_zero_no q1').elim | have m2' := sgn_den q1') | intro q1')))
local macro_rules | `(tactic| walk_at "call ref cons nil") => `(tactic| (k_here; (with_reducible show wpAny _ _ (call (Value.ref 320) _ _) _ _ _); k_dflt (refine' Spec.use ?B ?F ?X ?N ?T ?K (law_zero_k _ _ _ _ _ _ _ ?hl ?h1 ?h2 ?h3 ?h4) ?d ?u ?_; (case B => k_asm); (case F => k_asm); (case X => k_asm); (case N => k_asm); (case T => k_asm); (case K => first | exact rfl | assumption); (case h4 => assumption); (case hl => ktr_rel); (case h1 => first | assumption | omega); (case h2 => first | assumption | omega); (case h3 => first | assumption | omega); (case d => ktr_room); (case u => ktr_units); k_whole); (intro v' nx' h' tk' O' F' N'; (obtain ⟨e1, t1, e2⟩ := O'); subst nx'; subst e2); ((try k_sweep); (try dsimp only); (try k_fold))))
local macro_rules | `(tactic| walk_at "call ref cons nil") => `(tactic| (k_here; (with_reducible show wpAny _ _ (call (Value.ref 332) _ _) _ _ _); k_dflt (refine' Spec.use ?B ?F ?X ?N ?T ?K (law_lowest_c _ _ _ _ _ _ ?h0 ?hb ?hc) ?d ?u ?_; (case B => k_asm); (case F => k_asm); (case X => k_asm); (case N => k_asm); (case T => k_asm); (case K => first | exact rfl | assumption); (case h0 => first | exact dec_run_nn _ | exact low_nonneg (dec_run_nn _) (by omega) (by omega)); (case hb => omega); (case hc => omega); (case d => ktr_room); (case u => ktr_units); k_whole); (intro v' nx' h' tk' O' F' N'; (obtain ⟨T1, t1, t2, e2, e1, l1⟩ := O'); subst nx'; subst e2); (try k_lt l1); (try k_sweep); (try dsimp only); (try k_fold)))
theorem law_run_z (w : World) (news : Led) (l : Addr) (ns : List Int) (i : Int) (ti : Tok) (hl : TL news l ns) (hn : ns.length < 100) (h0 : 0 ≤ i) (h1 : i < 100) (hr : runLen (ns.drop i.toNat) = 0) :
    Spec w 327 [.ref l, .int i ti] 2 news (fun v nx => ∃ T u1 u2, v = .ref T ∧ nx = (T, tup2 i u1 0 u2) :: news ∧ ∀ p ∈ news, p.1 < T) := by
  refine (law_run_c w news l ns i ti hl hn h0 h1).mono ?_
  rintro v nx ⟨T, u1, u2, e1, e2, e3⟩
  rw [hr] at e2
  exact ⟨T, u1, u2, e1, by rw [e2]; exact congrArg (fun q => (_, q) :: news) (tup2_e (by omega) rfl), e3⟩
section
local macro_rules | `(tactic| walk_at "call ref cons nil") => `(tactic| (k_here; (with_reducible show wpAny _ _ (call (Value.ref 327) _ _) _ _ _); k_dflt (refine' Spec.use ?B ?F ?X ?N ?T ?K (law_run_z _ _ _ _ _ _ ?hl ?h1 ?h2 ?h3 ?h4) ?d ?u ?_; (case B => k_asm); (case F => k_asm); (case X => k_asm); (case N => k_asm); (case T => k_asm); (case K => first | exact rfl | assumption); (case h4 => assumption); (case hl => ktr_rel); (case h1 => first | assumption | omega); (case h2 => first | assumption | omega); (case h3 => first | assumption | omega); (case d => ktr_room); (case u => ktr_units); k_whole); (intro v' nx' h' tk' O' F' N'; (obtain ⟨T1, u1, u2, e2, e1, l1⟩ := O'); subst nx'; subst e2); ((try k_lt l1); (try k_sweep); (try dsimp only); (try k_fold))))
theorem law_met_a (w : World) (news : Led) (l : Addr) (ns : List Int) (i : Int) (ti : Tok) (hl : TL news l ns) (hn : ns.length < 10) (h0 : 0 ≤ i) (h1 : i < ns.length) (hr : runLen (ns.drop i.toNat) = 0) :
    Spec w 339 [.ref l, .int i ti] 3 news (MOut news i (ns.drop i.toNat)) := by
  intro mean mg mb dp un gd cn cs a ccd cl outer A₀ base h₀ L m s Q E B F X N T hk hd hu ret
  refine wpAny_call ?_
  k_dflt ktr_enter
  rename Fr _ _ _ _ => F0
  have F1 : Fr _ _ _ (fun y => List.lookup y [(Str.ofString "at", Value.int i ti), (Str.ofString "text", Value.ref l)]) := F0
  clear F0
  k_steps
  all_goals (try unfold Hold)
  · rename sgn _ = some _ => q1
    have e0 := drop_at h0 h1
    rw [e0] at hr ret
    obtain ⟨n1, v1⟩ := met_sgn0 hr q1
    rename News _ _ _ _ => nN
    refine ret _ _ _ _ (mout_pair (e := i + 1) (by omega) v1 (by walk_at "mine lt") ?_) (by assumption) (cb_drop nN (by kcf_all))
    exact fun p hp => Nat.lt_trans ((by assumption : ∀ p ∈ news, p.1 < _) p hp) (by omega)
  · rename (sgn _).isSome = false => q1
    have q2 : sgn (ns.getD i.toNat 0) = none := by simpa using q1
    have e0 := drop_at h0 h1
    rw [e0] at hr ret
    obtain ⟨n1, v1⟩ := met_no hr q2
    rename News _ _ _ _ => nN
    exact ret _ _ _ _ (mout_none (e := i) (by omega) v1 (by walk_at "mine lt")) (by assumption) (cb_drop nN (by kcf_all))
end
local macro_rules | `(tactic| walk_at "mine pad46") => `(tactic| skip)
local macro_rules | `(tactic| walk_at "mine pad47") => `(tactic| skip)
theorem zero_run {ns : List Int} {e : Int} (h0 : 0 ≤ e) (h : zeroAt ns e = none) : runLen (ns.drop e.toNat) = 0 := by
  by_cases he : e < (ns.length : Int)
  · rw [zeroAt_zof, if_pos he] at h; exact runLen_none h0 he h
  · exact runLen_end (by omega)
theorem rlen_pos {ns : List Int} {e z : Int} (h0 : 0 ≤ e) (h : e < (ns.length : Int)) (hz : zof (ns.getD e.toNat 0) = some z) : 0 < rlen z (ns.drop e.toNat) := by
  rw [rlen_step h0 h hz]; omega
theorem law_met_b (w : World) (news : Led) (l : Addr) (ns : List Int) (i z : Int) (ti : Tok) (hl : TL news l ns) (hn : ns.length < 10) (h0 : 0 ≤ i) (h1 : i < ns.length) (hr : runLen (ns.drop i.toNat) ≠ 0) (hz : zeroAt ns i = some z) :
    Spec w 339 [.ref l, .int i ti] 3 news (MOut news i (ns.drop i.toNat)) := by
  intro mean mg mb dp un gd cn cs a ccd cl outer A₀ base h₀ L m s Q E B F X N T hk hd hu ret
  refine wpAny_call ?_
  k_dflt ktr_enter
  rename Fr _ _ _ _ => F0
  have F1 : Fr _ _ _ (fun y => List.lookup y [(Str.ofString "at", Value.int i ti), (Str.ofString "text", Value.ref l)]) := F0
  clear F0
  k_steps
  all_goals (try unfold Hold)
  · rename ns.getD _ 0 = 8260 => q8
    rename zeroAt ns _ = none => q3
    have e1 := drop_run (ns := ns) (k := runLen (ns.drop i.toNat)) h0
    rw [drop_at (e := i + (runLen (ns.drop i.toNat) : Nat)) (by omega) (by assumption)] at e1
    rename News _ _ _ _ => nN
    rw [q8] at e1
    have q4 : runLen (ns.drop (i + (runLen (ns.drop i.toNat) : Nat) + 1).toNat) = 0 := zero_run (by omega) q3
    have n1 := met_non hr e1 rfl
    rw [if_neg (fun h => by have := h.2.1; omega)] at n1
    refine ret _ _ _ _ (mout_pair (e := i + (runLen (ns.drop i.toNat) : Nat)) (by omega) (met_run hr n1) (by walk_at "mine lt") ?_) (by assumption) (cb_drop nN (by kcf_all))
    exact fun p hp => Nat.lt_trans ((by assumption : ∀ p ∈ news, p.1 < _) p hp) (by omega)
  · rename ns.getD _ 0 = 8260 => q8
    rename zof (ns.getD (Int.toNat (_ + 1)) 0) = some _ => q3
    rename _ = z => q5
    subst q5
    have e1 := drop_run (ns := ns) (k := runLen (ns.drop i.toNat)) h0
    rw [drop_at (e := i + (runLen (ns.drop i.toNat) : Nat)) (by omega) (by assumption)] at e1
    rename News _ _ _ _ => nN
    rw [q8] at e1
    obtain ⟨n1, v1, v2⟩ := met_slashV hr e1 (by rw [runLen_some (by omega) (by assumption) q3]; exact rlen_pos (by omega) (by assumption) q3) (by rw [head_zof (by omega) q3, head_zof h0 (zeroAt_lt hz).2]) (by omega)
    refine ret _ _ _ _ (mout_pair (e := i + (runLen (ns.drop i.toNat) : Nat) + 1 + (runLen (ns.drop (i + (runLen (ns.drop i.toNat) : Nat) + 1).toNat) : Nat)) (by omega) (v2 (by assumption)) (by walk_at "mine lt") ?_) (by assumption) (cb_drop nN (by kcf_all))
    exact fun p hp => Nat.lt_trans ((by assumption : ∀ p ∈ news, p.1 < _) p hp) (by omega)
  · rename ns.getD _ 0 = 8260 => q8
    rename zof (ns.getD (Int.toNat (_ + 1)) 0) = some _ => q3
    rename _ = z => q5
    subst q5
    have e1 := drop_run (ns := ns) (k := runLen (ns.drop i.toNat)) h0
    rw [drop_at (e := i + (runLen (ns.drop i.toNat) : Nat)) (by omega) (by assumption)] at e1
    rename News _ _ _ _ => nN
    rw [q8] at e1
    obtain ⟨n1, v1, v2⟩ := met_slashV hr e1 (by rw [runLen_some (by omega) (by assumption) q3]; exact rlen_pos (by omega) (by assumption) q3) (by rw [head_zof (by omega) q3, head_zof h0 (zeroAt_lt hz).2]) (by omega)
    exact ret _ _ _ _ (mout_none (e := i + (runLen (ns.drop i.toNat) : Nat) + 1 + (runLen (ns.drop (i + (runLen (ns.drop i.toNat) : Nat) + 1).toNat) : Nat)) (by omega) (v1 (by omega)) (by walk_at "mine lt")) (by assumption) (cb_drop nN (by kcf_all))
  · rename ns.getD _ 0 = 8260 => q8
    rename ¬ 0 < decV _ => q6
    have e1 := drop_run (ns := ns) (k := runLen (ns.drop i.toNat)) h0
    rw [drop_at (e := i + (runLen (ns.drop i.toNat) : Nat)) (by omega) (by assumption)] at e1
    rename News _ _ _ _ => nN
    rw [q8] at e1
    have n1 := met_non hr e1 rfl
    have q7 := dec_run_nn (ns.drop (i + (runLen (ns.drop i.toNat) : Nat) + 1).toNat)
    rw [if_neg (fun h => by have := h.2.2.2; omega)] at n1
    refine ret _ _ _ _ (mout_pair (e := i + (runLen (ns.drop i.toNat) : Nat)) (by omega) (met_run hr n1) (by walk_at "mine lt") ?_) (by assumption) (cb_drop nN (by kcf_all))
    exact fun p hp => Nat.lt_trans ((by assumption : ∀ p ∈ news, p.1 < _) p hp) (by omega)
  · rename ns.getD _ 0 = 8260 => q8
    rename zof (ns.getD (Int.toNat (_ + 1)) 0) = some _ => q3
    rename _ ≠ z => q5
    have e1 := drop_run (ns := ns) (k := runLen (ns.drop i.toNat)) h0
    rw [drop_at (e := i + (runLen (ns.drop i.toNat) : Nat)) (by omega) (by assumption)] at e1
    rename News _ _ _ _ => nN
    rw [q8] at e1
    have n1 := met_non hr e1 rfl
    rw [if_neg (fun h => q5 (by have := h.2.2.1; rw [head_zof (by omega) q3, head_zof h0 (zeroAt_lt hz).2] at this; exact Option.some.inj this))] at n1
    refine ret _ _ _ _ (mout_pair (e := i + (runLen (ns.drop i.toNat) : Nat)) (by omega) (met_run hr n1) (by walk_at "mine lt") ?_) (by assumption) (cb_drop nN (by kcf_all))
    exact fun p hp => Nat.lt_trans ((by assumption : ∀ p ∈ news, p.1 < _) p hp) (by omega)
  · rename sgn _ = some _ => q3
    have e1 := drop_run (ns := ns) (k := runLen (ns.drop i.toNat)) h0
    rw [drop_at (e := i + (runLen (ns.drop i.toNat) : Nat)) (by omega) (by assumption)] at e1
    rename News _ _ _ _ => nN
    obtain ⟨n1, v1⟩ := met_sgnV hr e1 q3 (by assumption) (by assumption)
    refine ret _ _ _ _ (mout_pair (e := i + (runLen (ns.drop i.toNat) : Nat) + 1) (by omega) v1 (by walk_at "mine lt") ?_) (by assumption) (cb_drop nN (by kcf_all))
    exact fun p hp => Nat.lt_trans ((by assumption : ∀ p ∈ news, p.1 < _) p hp) (by omega)
  · rename sgn _ = some _ => q3
    have e1 := drop_run (ns := ns) (k := runLen (ns.drop i.toNat)) h0
    rw [drop_at (e := i + (runLen (ns.drop i.toNat) : Nat)) (by omega) (by assumption)] at e1
    rename News _ _ _ _ => nN
    have n1 := met_sgn hr e1 q3
    rw [if_neg (fun h => by omega)] at n1
    refine ret _ _ _ _ (mout_pair (e := i + (runLen (ns.drop i.toNat) : Nat)) (by omega) (met_run hr n1) (by walk_at "mine lt") ?_) (by assumption) (cb_drop nN (by kcf_all))
    exact fun p hp => Nat.lt_trans ((by assumption : ∀ p ∈ news, p.1 < _) p hp) (by omega)
  · rename sgn _ = some _ => q3
    have e1 := drop_run (ns := ns) (k := runLen (ns.drop i.toNat)) h0
    rw [drop_at (e := i + (runLen (ns.drop i.toNat) : Nat)) (by omega) (by assumption)] at e1
    rename News _ _ _ _ => nN
    have n1 := met_sgn hr e1 q3
    rw [if_neg (fun h => by omega)] at n1
    refine ret _ _ _ _ (mout_pair (e := i + (runLen (ns.drop i.toNat) : Nat)) (by omega) (met_run hr n1) (by walk_at "mine lt") ?_) (by assumption) (cb_drop nN (by kcf_all))
    exact fun p hp => Nat.lt_trans ((by assumption : ∀ p ∈ news, p.1 < _) p hp) (by omega)
  · rename sgn (ns.getD _ 0) = none => q3
    rename ns.getD _ 0 ≠ 8260 => q8
    have e1 := drop_run (ns := ns) (k := runLen (ns.drop i.toNat)) h0
    rw [drop_at (e := i + (runLen (ns.drop i.toNat) : Nat)) (by omega) (by assumption)] at e1
    rename News _ _ _ _ => nN
    have n1 := met_non hr e1 q3
    rw [if_neg (fun h => q8 h.1)] at n1
    refine ret _ _ _ _ (mout_pair (e := i + (runLen (ns.drop i.toNat) : Nat)) (by omega) (met_run hr n1) (by walk_at "mine lt") ?_) (by assumption) (cb_drop nN (by kcf_all))
    exact fun p hp => Nat.lt_trans ((by assumption : ∀ p ∈ news, p.1 < _) p hp) (by omega)
  · rename News _ _ _ _ => nN
    have e1 := drop_run (ns := ns) (k := runLen (ns.drop i.toNat)) h0
    rw [List.drop_of_length_le (i := Int.toNat (i + _)) (by omega)] at e1
    have n1 := met_end hr e1
    refine ret _ _ _ _ (mout_pair (e := i + (runLen (ns.drop i.toNat) : Nat)) (by omega) (met_run hr n1) (by walk_at "mine lt") ?_) (by assumption) (cb_drop nN (by kcf_all))
    exact fun p hp => Nat.lt_trans ((by assumption : ∀ p ∈ news, p.1 < _) p hp) (by omega)
end
local macro_rules | `(tactic| walk_at "mine pad48") => `(tactic| skip)
local macro_rules | `(tactic| walk_at "mine pad49") => `(tactic| skip)
local macro_rules | `(tactic| walk_at "mine pad50") => `(tactic| skip)
local macro_rules | `(tactic| walk_at "mine pad51") => `(tactic| skip)
local macro_rules | `(tactic| walk_at "mine pad52") => `(tactic| skip)
local macro_rules | `(tactic| walk_at "mine pad53") => `(tactic| skip)
local macro_rules | `(tactic| walk_at "mine pad54") => `(tactic| skip)
local macro_rules | `(tactic| walk_at "mine pad55") => `(tactic| skip)
local macro_rules | `(tactic| walk_at "mine pad56") => `(tactic| skip)
theorem zero_some {ns : List Int} {i : Int} (h0 : 0 ≤ i) (h1 : i < (ns.length : Int)) (hr : runLen (ns.drop i.toNat) ≠ 0) : ∃ z, zeroAt ns i = some z := by
  rw [zeroAt_zof, if_pos h1]
  cases hz : zof (ns.getD i.toNat 0) with
  | none => exact absurd (runLen_none h0 h1 hz) hr
  | some z => exact ⟨z, rfl⟩
theorem law_met_c (w : World) (news : Led) (l : Addr) (ns : List Int) (i : Int) (ti : Tok) (hl : TL news l ns) (hn : ns.length < 10) (h0 : 0 ≤ i) (h1 : i < ns.length) :
    Spec w 339 [.ref l, .int i ti] 3 news (MOut news i (ns.drop i.toNat)) := by
  by_cases hr : runLen (ns.drop i.toNat) = 0
  · exact law_met_a w news l ns i ti hl hn h0 h1 hr
  · obtain ⟨z, hz⟩ := zero_some h0 h1 hr
    exact law_met_b w news l ns i z ti hl hn h0 h1 hr hz
--@M
local macro_rules | `(tactic| walk_at "call ref cons nil") => `(tactic| (k_here; (with_reducible show wpAny _ _ (call (Value.ref 339) _ _) _ _ _); k_dflt (refine' Spec.use ?B ?F ?X ?N ?T ?K (law_met_c _ _ _ _ _ _ ?hl ?h1 ?h2 ?h3) ?d ?u ?_; (case B => k_asm); (case F => k_asm); (case X => k_asm); (case N => k_asm); (case T => k_asm); (case K => first | exact rfl | assumption); (case hl => ktr_rel); (case h1 => first | assumption | omega); (case h2 => first | assumption | omega); (case h3 => first | assumption | omega); (case d => ktr_room); (case u => ktr_units); k_whole); (intro v' nx' h' tk' O' F' N'; (obtain ⟨T1, u1, e2, l1, O1⟩ := O'); subst e2; (rcases O1 with ⟨v1, e1⟩ | ⟨p1, T2, a1, a2, v1, e1, l2⟩) <;> subst nx') <;> ((try k_lt l1); (try k_lt l2); (try k_sweep); (try dsimp only); (try k_fold))))
--@E
theorem unit_i5_lawnums : True := by
  w_top off
  trivial
/-! ## _law_numbers -/
abbrev MetT := Int × Int × Option (Int × Int)
def metD (q : MetT) : Dat := .tuple [.int q.1, .int q.2.1, optD q.2.2]
def mets (off : Int) (s : List Int) : List MetT :=
  if _h : s = [] then []
  else if 0 < numLen s then (off, off + (numLen s : Nat), metVal s) :: mets (off + (numLen s : Nat)) (s.drop (numLen s))
  else mets (off + 1) (s.drop 1)
termination_by s.length
decreasing_by
  all_goals (have : 0 < s.length := List.length_pos_iff.mpr _h; simp only [List.length_drop]; omega)
theorem mets_nil (off : Int) : mets off [] = [] := by rw [mets]; simp
theorem mets_yes {off : Int} {s : List Int} (h : 0 < s.length) (hk : 0 < numLen s) : mets off s = (off, off + (numLen s : Nat), metVal s) :: mets (off + (numLen s : Nat)) (s.drop (numLen s)) := by
  rw [mets, dif_neg (by intro e; rw [e] at h; simp at h), if_pos hk]
theorem mets_no {off : Int} {s : List Int} (h : 0 < s.length) (hk : numLen s = 0) : mets off s = mets (off + 1) (s.drop 1) := by
  rw [mets, dif_neg (by intro e; rw [e] at h; simp at h), if_neg (by omega)]
structure LSt where
  at_ : Int
  ta : Tok
  us : List Value
  n : Nat
  tl : Led
  done : List MetT
section
local macro_rules | `(tactic| k_all) => `(tactic| assumption)
local macro_rules | `(tactic| walk_at "call builtin:list.append cons nil") => `(tactic| (k_here; k_dflt (refine' append_K ?k1 ?k2 ?k3 ?_ ?z; (case k1 => k_asm); (case k2 => k_asm); (case k3 => k_upd); (case z => (rw [List.size_toArray, sizeLine_eq]; omega)); k_whole); intro h' F' N'; (try k_sweep)))
theorem law_numbers_c (w : World) (news : Led) (l : Addr) (ns : List Int) (hl : TL news l ns) (hn : ns.length < 10) :
    Spec w 346 [.ref l] 4 news (fun v nx => ∃ fl us n tl, v = .ref fl ∧ nx = (fl, listOf us.toArray n) :: (tl ++ news) ∧ DatAll (tl ++ news) us ((mets 0 ns).map metD) ∧ (∀ p ∈ news, p.1 < fl)) := by
  intro mean mg mb dp un gd cn cs a ccd cl outer A₀ base h₀ L m s Q E B F X N T hk hd hu ret
  refine wpAny_call ?_
  k_dflt ktr_enter
  rename Fr _ _ _ _ => F0
  have F1 : Fr _ _ _ (fun y => List.lookup y [(Str.ofString "text", Value.ref l)]) := F0
  clear F0
  k_steps
  unfold Hold
  rename Fr _ _ _ _ => lF'
  rename News _ _ _ _ => lN'
  rename_i fl h4 lfl D h3 lD h2 h1 h0
  k_dflt (refine ksw_while (σ := LSt) (fun c => (fl, listOf c.us.toArray c.n) :: (c.tl ++ news)) (fun c => [(Str.ofString "at", .int c.at_ c.ta)]) (fun _ => True) [Str.ofString "end", Str.ofString "value"] (fun c => 0 ≤ c.at_ ∧ c.at_ ≤ ns.length ∧ DatAll (c.tl ++ news) c.us (c.done.map metD) ∧ (∀ p ∈ c.tl ++ news, p.1 ≠ fl) ∧ c.done ++ mets c.at_ (ns.drop c.at_.toNat) = mets 0 ns ∧ (c.us.length : Int) ≤ c.at_) (fun c => ((ns.length : Int) - c.at_).toNat) ⟨0, _, [], 0, [], []⟩ lF' (cb_drop lN' (fun p hp => List.mem_cons_of_mem _ hp)) trivial (List.forall_mem_cons.mpr ⟨rfl, List.forall_mem_nil _⟩) ⟨Int.le_refl _, by dsimp only; omega, .nil, fun p hp => Nat.ne_of_lt (lfl p hp), rfl, by dsimp only; simp⟩ ?_)
  rintro ⟨at_, ta, us, n, tl, done⟩ u h tk - ⟨p1, p2, p3, p4, p5, p6⟩ F' N'
  dsimp only at p1 p2 p3 p4 p5 p6 F' N' ⊢
  simp only [kstB] at F'
  clear lF' lN'
  (try k_unmd); (try k_fold)
  k_steps
  all_goals (try unfold Hold)
  · have k0 : 0 < numLen (ns.drop at_.toNat) := by omega
    have k1 : 0 < (ns.drop at_.toNat).length := by rw [List.length_drop]; omega
    have k2 := runLen_pre (s := ns.drop at_.toNat)
    rw [List.length_drop] at k2
    rename metVal _ = _ => v1
    rename News _ _ _ (_ :: _ :: _ :: _) => nN
    rw [List.push_toArray] at nN
    refine ksw_end ⟨at_ + (numLen (ns.drop at_.toNat) : Nat), _, us ++ [.ref _], n + 1, (_, _) :: (_, _) :: tl, done ++ [(at_, at_ + (numLen (ns.drop at_.toNat) : Nat), metVal (ns.drop at_.toNat))]⟩ (by assumption) nN perm3 trivial (List.forall_mem_cons.mpr ⟨at_fix1 (a := at_ + 1) (e := at_ + (numLen (ns.drop at_.toNat) : Nat)) (by omega), List.forall_mem_nil _⟩) (by ksw_same) ?_ ?_
    · dsimp only
      refine ⟨by omega, by omega, ?_, ?_, ?_, by rw [List.length_append]; simp only [List.length_cons, List.length_nil]; omega⟩
      · rw [List.map_append]
        refine .append (p3.mono (fun p hp => List.mem_cons_of_mem _ (List.mem_cons_of_mem _ hp))) (.one (.tuple (.head _) (.cons (.int _ _) (.cons (.int _ _) (.cons ?_ .nil)))))
        rw [v1]
        exact .none
      · intro p hp
        rcases List.mem_cons.mp hp with rfl | hp
        · exact Nat.ne_of_gt (by omega)
        rcases List.mem_cons.mp hp with rfl | hp
        · exact Nat.ne_of_gt (by omega)
        exact p4 p hp
      · rw [List.append_assoc, ← p5, mets_yes k1 k0]
        rw [List.drop_drop, show at_.toNat + numLen (ns.drop at_.toNat) = (at_ + (numLen (ns.drop at_.toNat) : Nat)).toNat by omega]; rfl
    · dsimp only; omega
  · have k0 : numLen (ns.drop at_.toNat) = 0 := by omega
    have k1 : 0 < (ns.drop at_.toNat).length := by rw [List.length_drop]; omega
    refine ksw_end ⟨at_ + 1, _, us, n, tl, done⟩ (by assumption) (by assumption) (fun p hp => List.mem_cons_of_mem _ hp) trivial (List.forall_mem_cons.mpr ⟨at_fix2 (a := at_ + 1) (e := at_ + (numLen (ns.drop at_.toNat) : Nat)) (by omega), List.forall_mem_nil _⟩) (by ksw_same) ?_ ?_
    · dsimp only
      refine ⟨by omega, by omega, p3, p4, ?_, by omega⟩
      rw [← p5, mets_no k1 k0, List.drop_drop, show at_.toNat + 1 = (at_ + 1).toNat by omega]
    · dsimp only; omega
  · have k0 : 0 < numLen (ns.drop at_.toNat) := by omega
    have k1 : 0 < (ns.drop at_.toNat).length := by rw [List.length_drop]; omega
    have k2 := runLen_pre (s := ns.drop at_.toNat)
    rw [List.length_drop] at k2
    rename metVal _ = _ => v1
    rename News _ _ _ (_ :: _ :: _ :: _ :: _) => nN
    rw [List.push_toArray] at nN
    refine ksw_end ⟨at_ + (numLen (ns.drop at_.toNat) : Nat), _, us ++ [.ref _], n + 1, (_, _) :: (_, _) :: (_, _) :: tl, done ++ [(at_, at_ + (numLen (ns.drop at_.toNat) : Nat), metVal (ns.drop at_.toNat))]⟩ (by assumption) nN perm4 trivial (List.forall_mem_cons.mpr ⟨at_fix1 (a := at_ + 1) (e := at_ + (numLen (ns.drop at_.toNat) : Nat)) (by omega), List.forall_mem_nil _⟩) (by ksw_same) ?_ ?_
    · dsimp only
      refine ⟨by omega, by omega, ?_, ?_, ?_, by rw [List.length_append]; simp only [List.length_cons, List.length_nil]; omega⟩
      · rw [List.map_append]
        refine .append (p3.mono (fun p hp => List.mem_cons_of_mem _ (List.mem_cons_of_mem _ (List.mem_cons_of_mem _ hp)))) (.one (.tuple (.head _) (.cons (.int _ _) (.cons (.int _ _) (.cons ?_ .nil)))))
        rw [v1]
        exact .tuple (vs := [.int _ _, .int _ _]) (.tail _ (.tail _ (.head _))) (.cons (.int _ _) (.cons (.int _ _) .nil))
      · intro p hp
        rcases List.mem_cons.mp hp with rfl | hp
        · exact Nat.ne_of_gt (by omega)
        rcases List.mem_cons.mp hp with rfl | hp
        · exact Nat.ne_of_gt (by omega)
        rcases List.mem_cons.mp hp with rfl | hp
        · exact Nat.ne_of_gt (by omega)
        exact p4 p hp
      · rw [List.append_assoc, ← p5, mets_yes k1 k0]
        rw [List.drop_drop, show at_.toNat + numLen (ns.drop at_.toNat) = (at_ + (numLen (ns.drop at_.toNat) : Nat)).toNat by omega]; rfl
    · dsimp only; omega
  · have k0 : numLen (ns.drop at_.toNat) = 0 := by omega
    have k1 : 0 < (ns.drop at_.toNat).length := by rw [List.length_drop]; omega
    refine ksw_end ⟨at_ + 1, _, us, n, tl, done⟩ (by assumption) (by assumption) (fun p hp => List.mem_cons_of_mem _ (List.mem_cons_of_mem _ hp)) trivial (List.forall_mem_cons.mpr ⟨at_fix2 (a := at_ + 1) (e := at_ + (numLen (ns.drop at_.toNat) : Nat)) (by omega), List.forall_mem_nil _⟩) (by ksw_same) ?_ ?_
    · dsimp only
      refine ⟨by omega, by omega, p3, p4, ?_, by omega⟩
      rw [← p5, mets_no k1 k0, List.drop_drop, show at_.toNat + 1 = (at_ + 1).toNat by omega]
    · dsimp only; omega
  · have k1 : ns.drop at_.toNat = [] := List.drop_eq_nil_of_le (by omega)
    rw [k1, mets_nil, List.append_nil] at p5
    exact ret _ _ _ _ ⟨_, _, _, _, rfl, rfl, p5 ▸ p3, lfl⟩ (by assumption) (by assumption)
end
local macro_rules | `(tactic| walk_at "mine pad57") => `(tactic| skip)
local macro_rules | `(tactic| walk_at "mine pad58") => `(tactic| skip)
local macro_rules | `(tactic| walk_at "mine pad59") => `(tactic| skip)
--@M
local macro_rules | `(tactic| walk_at "call ref cons nil") => `(tactic| (k_here; (with_reducible show wpAny _ _ (call (Value.ref 346) _ _) _ _ _); k_dflt (refine' Spec.use ?B ?F ?X ?N ?T ?K (law_numbers_c _ _ _ _ ?hl ?h1) ?d ?u ?_; (case B => k_asm); (case F => k_asm); (case X => k_asm); (case N => k_asm); (case T => k_asm); (case K => first | exact rfl | assumption); (case hl => ktr_rel); (case h1 => first | assumption | omega); (case d => ktr_room); (case u => ktr_units); k_whole); (intro v' nx' h' tk' O' F' N'; (obtain ⟨fl1, us1, n1, tl1, e2, e1, d1, l1⟩ := O'); subst nx'; subst e2); ((try k_lt l1); (try k_sweep); (try dsimp only); (try k_fold))))
--@E
theorem unit_j15_tupcut : True := by
  w_top off
  trivial
--@nofill
/-! ## the first two of a tuple of three -/
section
variable {prog : Program} {w : World} {A : Around} {E : Value → Shared → Prop} {s : Shared}
theorem sliceApplied_two {sl : Addr} {u : Tok} {Q : Int × Int × Nat → Shared → Prop} (hs : s.heap.IsSliceOf sl .none (.int 2 u) .none) (h : Q (0, 1, 2) s) :
    wpAny (model prog w) A (Builtin.Slice.sliceApplied (.ref sl) (pure (3 : Int))) Q E s := by
  obtain ⟨os, hos, hcs, hds⟩ := id hs
  unfold Builtin.Slice.sliceApplied Builtin.Slice.sliceFields
  refine wpAny_bind (wpAny_bind (wpAny_field hos hds (x := .none) rfl (wpAny_bind (wpAny_field hos hds (x := .int 2 u) rfl (wpAny_bind (wpAny_field hos hds (x := .none) rfl (wpAny_pure ?_)))))))
  refine wpAny_bind (slicePart_none ?_)
  show wpAny _ _ (if ((1 : Int) == 0) = true then _ else _) _ _ s
  rw [if_neg (by decide)]
  refine wpAny_bind (slicePart_none (wpAny_bind (slicePart_int (wpAny_bind (wpAny_pure ?_)))))
  exact wpAny_pure h
theorem getItem_tuple_two {t sl : Addr} {x y z : Value} {u : Tok} {Q : Value → Shared → Prop} (ht : IsTup s.heap t #[x, y, z]) (hs : s.heap.IsSliceOf sl .none (.int 2 u) .none)
    (h : Q (.ref s.heap.objs.size) { s with heap := s.heap.push { cls := .type "tuple", data := .seq #[x, y] } }) : wpAny (model prog w) A (getItem (.ref t) (.ref sl)) Q E s := by
  have hdrop : sizeOk (.seq #[x, y]) := by
    show (2 : Nat) ≤ sizeLine
    rw [sizeLine_eq]; omega
  obtain ⟨os, hos, hcs, hds⟩ := id hs
  have hTs : s.TypeIs (.ref sl) "slice" := ⟨os, hos, hcs⟩
  unfold getItem
  try with_reducible refine wpAny_holding ?_
  first | refine wpAny_bind (wpAny_pure ?_) | skip
  refine wpAny_bind (wpAny_sequenceKey ht.typeIs (by decide) ?_)
  refine wpAny_bind (wpAny_callSpecial?_slot (name := Str.ofString "__getitem__") ht.typeIs slot_tuple_getitem
    (wpAny_call_entry slot_tuple_getitem ht.typeIs entry_tuple_getitem ?_ (args_tuple_getitem _ _)))
  show wpAny _ _ (Builtin.Tuple.tupleItemsOf (.ref t) >>= _) _ _ s
  refine wpAny_bind (tupleItemsOf_ ht ?_)
  refine wpAny_bind (wpAny_typeOf hTs ?_)
  rw [if_pos (by decide)]
  refine wpAny_bind (sliceApplied_two hs ?_)
  show wpAny _ _ (if ((0 : Int) == 0 && (1 : Int) == 1 && ((2 : Nat) == 3)) = true then _ else _) _ _ s
  rw [if_neg (by decide)]
  first
    | exact wpAny_bind (m := Builtin.Tuple.tupleExact _) (wpAny_newObj_type (wpAny_pure ⟨_, rfl, wpAny_pure h⟩) hdrop)
    | exact wpAny_bind (m := Builtin.Tuple.tupleExact _) (wpAny_newObj_type (wpAny_bind (wpAny_pure (wpAny_pure ⟨_, rfl, wpAny_pure h⟩))) hdrop)
    | exact wpAny_bind (wpAny_bind (m := Builtin.Tuple.tupleExact _) (wpAny_newObj_type (wpAny_pure (wpAny_pure ⟨_, rfl, wpAny_pure h⟩)) hdrop))
    | exact wpAny_bind (wpAny_bind (m := Builtin.Tuple.tupleExact _) (wpAny_newObj_type (wpAny_pure ⟨_, rfl, wpAny_pure h⟩) hdrop))
end
section
variable {prog : Program} {w : World} {A : Around} {E : Value → Shared → Prop} {s : Shared} {h₀ : Heap} {L : Addr} {m : Str → Option Value} {news : List (Addr × Obj)}
theorem slice_tuple_two {value slice : PySem.Expr} {t : Addr} {x y z : Value} {u : Tok} {n : Nat} {Q : Value → Shared → Prop}
    (F : Fr h₀ L s.heap m) (N : News h₀ L s.heap news) (hm : (t, ({ cls := .type "tuple", data := .seq [x, y, z].toArray n } : Obj)) ∈ news)
    (h : ∀ D h', Fr h₀ L h' m → News h₀ L h' ((D, { cls := .type "tuple", data := .seq #[x, y] }) :: news) → (∀ p ∈ news, p.1 < D) → Q (.ref D) { s with heap := h' })
    (hs : subscripted slice false (.ref t) (.ref s.heap.objs.size) = operate [.ref s.heap.objs.size, .ref t] (getItem (.ref t) (.ref s.heap.objs.size)))
    (hg : ∀ r, letTemporaryGo value (.ref t) r = pure ()) :
    wpAny (model prog w) A (subscriptTail value slice (.ref t) (.ref s.heap.objs.size)) Q E { s with heap := s.heap.push { cls := .type "slice", data := .fields #[.none, .int 2 u, .none] } } := by
  have ht : IsTup s.heap t #[x, y, z] := ⟨_, (N _ hm).1, rfl, n, rfl⟩
  have ht' : IsTup (s.heap.push { cls := .type "slice", data := .fields #[.none, .int 2 u, .none] }) t #[x, y, z] := ht.keeps fun _ _ e => Heap.get?_push_of_some _ e
  refine subscriptTail_ops (s := { s with heap := s.heap.push { cls := .type "slice", data := .fields #[.none, .int 2 u, .none] } }) ht'.typeIs slot_tuple_getitem.lookup
    (getItem_tuple_two ht' (Heap.IsSliceOf.new ..) ?_) hs hg
  have N1 := News.push (F.push { cls := .type "slice", data := .fields #[.none, .int 2 u, .none] }) (N.grown fun _ _ e => Heap.get?_push_of_some _ e) { cls := .type "tuple", data := .seq #[x, y] }
  rw [Heap.size_push] at N1
  show Q (.ref (s.heap.push _).objs.size) _
  rw [Heap.size_push]
  exact h _ _ ((F.push _).push _) N1 (fun p hp => Nat.lt_succ_of_lt (Heap.lt_size (N p hp).1))
end
theorem tuple_same_N {prog : Program} {w : World} {A : Around} {E : Value → Shared → Prop} {s : Shared} {h₀ : Heap} {L t : Addr} {cur : Led} {vs : List Value} {n : Nat} {Q : Value → Shared → Prop} (N : News h₀ L s.heap cur) (hm : (t, ({ cls := .type "tuple", data := .seq vs.toArray n } : Obj)) ∈ cur) (h : Q (.ref t) s) :
    wpAny (model prog w) A (call (.type "tuple") [.ref t]) Q E s := call_tuple_tup ⟨_, (N _ hm).1, rfl, n, rfl⟩ h
--@M
local macro_rules | `(tactic| walk_at "call type:tuple cons nil") => `(tactic| (k_here; k_dflt (refine' tuple_same_N ?N ?t ?_; (case N => k_asm); (case t => first | assumption | kcf_m))))
local macro_rules | `(tactic| walk_at "subscriptTail Name Slice ref ref") => `(tactic| (k_here; (with_reducible show wpAny _ _ (subscriptTail _ (PySem.Expr.Slice none (some _) none _) _ _) _ _ _); k_dflt (refine' slice_tuple_two ?F ?N ?t ?_ ?s ?y; (case F => k_asm); (case N => k_asm); (case t => kcf_m); (case s => with_unfolding_all rfl); (case y => kmk_pure)); intro D' h' F' N' l1; (try k_lt l1); (try k_sweep)))
--@E
theorem unit_j17_zip : True := by
  w_top off
  trivial
--@nofill
/-! ## a comprehension over zip of two lists, with a pair target and a test that is never met -/
section
open PySem.Spec PyProof.Rows.LCg
variable {prog : Program} {w : World} {A : Around} {E : Value → Shared → Prop} {s : Shared} {h₀ : Heap} {L : Addr} {m : Str → Option Value} {env : Env}
theorem loop_pairT {ct elt target iter : PySem.Expr} {scope : Scope} {pos : Pos} {it acc : Value} {env : Env} {R : Result → Shared → Prop} (I : Nat → Shared → Prop)
    (turn : ∀ n s, I n s → wpAny (model prog w) A (pyNext it) (fun r s₁ => match r with
      | none => R (.ok .next) s₁
      | some v => wpAny (model prog w) A (letOwnedTupleGo target it v) (fun _ s₀ => wpAny (model prog w) A (assign target env v) (fun _ s₂ =>
          wpAny (model prog w) A (isTrue ct env (eval ct env)) (fun ok s₃ => ok = false ∧ ∃ m, m < n ∧ I m s₃) (notedBy (model prog w) A env fun e s' => R (.error e) s') s₂)
          (notedBy (model prog w) A env fun e s' => R (.error e) s') s₀) (notedBy (model prog w) A env fun e s' => R (.error e) s') s₁) (notedBy (model prog w) A env fun e s' => R (.error e) s') s)
    (n : Nat) (h : I n s) : codeAny (model prog w) A (.compLoop (.ListComp elt [⟨target, iter, [ct], 0⟩] scope pos) 0 it acc env) R s := by
  refine codeAny_loop rfl I (fun n s hI => ?_) n h
  show wpAny _ A ((compTurn (.ListComp elt [⟨target, iter, [ct], 0⟩] scope pos) 0 it acc env).onRaise (fun x => do noteFrame x env; theTreesLotGoes x)) _ _ s
  refine wpAny_noted ?_
  rw [compTurn_list]
  refine wpAny_bind (wpAny_standAt (wpAny_bind (wpAny_mono (turn n s hI) (fun r s₁ h₁ => ?_) fun _ _ h' => h')))
  cases r with
  | none => exact wpAny_pure h₁
  | some v =>
    refine wpAny_bind (wpAny_mono h₁ (fun _ s₀ h₀' => ?_) fun _ _ h' => h')
    refine wpAny_bind (wpAny_mono h₀' (fun _ s₂ h₂ => ?_) fun _ _ h' => h')
    refine wpAny_bind (wpAny_tests_one (wpAny_mono h₂ (fun ok s₃ h₃ => ?_) fun _ _ h' => h'))
    obtain ⟨rfl, h₃⟩ := h₃
    exact wpAny_pure ⟨rfl, h₃⟩

abbrev ZSt (z TI TO i1 i2 l1 l2 : Addr) (xs ys : Array Value) (i : Nat) (h : Heap) : Prop :=
  IsZip h z TI TO .none ∧ IsPair h TI (.ref i1) (.ref i2) ∧ (∃ a b, IsPair h TO a b) ∧ h.IsListIter i1 l1 i ∧ h.IsListIter i2 l2 i ∧ h.IsList l1 xs ∧ h.IsList l2 ys
theorem block_Z {ct elt iter : PySem.Expr} {x x₂ : Str} {px px₂ tp : Pos} {tk0} {scope : Scope} {cl : List (Str × Addr)} {pos : Pos} {s₂ : Shared} {z TI TO i1 i2 l1 l2 : Addr} {xs ys : Array Value} {news : Led} {RR : Value → Addr → Result → Shared → Prop}
    (hh : A.handled = none) (Dz : ZipApart z TI TO i1 i2 l1 l2) (hst : ZSt z TI TO i1 i2 l1 l2 xs ys 0 s₂.heap)
    (hcell : ∀ y ∈ scope.names, y.2 ≠ .cell) (hkind : scope.kind = .function) (hx : scope.names.lookup x = some .local) (hx₂ : scope.names.lookup x₂ = some .local) (hxx : x ≠ x₂)
    (F : Fr h₀ L s₂.heap m) (N : News h₀ L s₂.heap news) (hz : ∀ b ∈ [z, TI, TO, i1, i2], b ≠ L ∧ h₀.get? b = none ∧ ∀ p ∈ news, p.1 ≠ b) (hl1 : ∃ o, (l1, o) ∈ news) (hl2 : ∃ o, (l2, o) ∈ news)
    (turn : ∀ (i : Nat) v₁ v₂ C oC m₂ zs h tk (E' : Value → Shared → Prop), xs[i]? = some v₁ → ys[i]? = some v₂ → NsObj oC m₂ → m₂ x = some v₁ → m₂ x₂ = some v₂ → Fr h₀ L h m → News h₀ L h ((C, oC) :: (zs ++ news)) →
      wpAny (model prog w) A (isTrue ct (compEnvC scope cl C env) (eval ct (compEnvC scope cl C env))) (fun ok s' => ok = false ∧ ∃ h' tk', s' = { s₂ with heap := h', toks := tk' } ∧ Fr h₀ L h' m ∧ News h₀ L h' ((C, oC) :: (zs ++ news))) E' { s₂ with heap := h, toks := tk })
    (hRR : ∀ D C h tk m', Fr h₀ L h m → News h₀ L h ((D, lst []) :: news) → (∀ p ∈ news, p.1 ≠ D) → h.Ns C m' → h₀.get? C = none → h₀.get? D = none → C ≠ L → D ≠ L → C ≠ D → (∀ p ∈ news, p.1 ≠ C) → RR (.ref D) C (.ok .next) { s₂ with heap := h, toks := tk }) :
    wpAny (model prog w) A (newList []) (fun acc s₃ => wpAny (model prog w) A (newFunctionEnv scope env.globals cl [] env.qual none .none (some env)) (fun cenv s₄ =>
      codeAny (model prog w) A (.compStart (.ListComp elt [⟨.Tuple [.Name x px, .Name x₂ px₂] tk0 tp, iter, [ct], 0⟩] scope pos) 0 (.ref z) acc { cenv with scope := relabel scope env }) (RR acc cenv.locals) s₄) E s₃) E s₂ := by
  have W := WalksT.zip2 (prog := prog) (w := w) hh z TI TO i1 i2 l1 l2 Dz xs ys
  have hfp : ∀ b ∈ [z, TI, TO, i1, i2, l1, l2], b < s₂.heap.objs.size := by
    obtain ⟨a1, a2, ⟨_, _, a3⟩, ⟨_, a4, _⟩, ⟨_, a5, _⟩, ⟨_, a6, _⟩, ⟨_, a7, _⟩⟩ := id hst
    intro b hb
    simp only [List.mem_cons, List.not_mem_nil, or_false] at hb
    rcases hb with rfl | rfl | rfl | rfl | rfl | rfl | rfl
    · exact Heap.lt_size a1
    · exact Heap.lt_size a2
    · exact Heap.lt_size a3
    · exact Heap.lt_size a4
    · exact Heap.lt_size a5
    · exact Heap.lt_size a6
    · exact Heap.lt_size a7
  refine wpAny_newObj_type (wpAny_newFunctionEnv hcell (by intro y hy; simp at hy) (fun h₁ hns₁ hsb₁ => ?_) hkind)
  dsimp only at hns₁ hsb₁ ⊢
  generalize hH2 : s₂.heap.push { cls := .type "list", dict := none, data := .seq ([] : List Value).toArray } = H2 at hns₁ hsb₁ ⊢
  have hC : H2.objs.size = s₂.heap.objs.size + 1 := by rw [← hH2, Heap.size_push]
  have hDC : s₂.heap.objs.size ≠ H2.objs.size := by rw [hC]; exact Nat.ne_of_lt (Nat.lt_succ_self _)
  have below : ∀ b, b < s₂.heap.objs.size → b ≠ H2.objs.size ∧ b ≠ s₂.heap.objs.size := fun b hb => ⟨by rw [hC]; exact Nat.ne_of_lt (Nat.lt_succ_of_lt hb), Nat.ne_of_lt hb⟩
  have old : ∀ b o, s₂.heap.get? b = some o → h₁.get? b = some o := fun b o e => hsb₁.extBut b o (below b (Heap.lt_size e)).1 (Heap.get?_push_of_some _ (hH2 ▸ Heap.get?_push_of_some _ e))
  have hacc : h₁.get? s₂.heap.objs.size = some (lst []) := hsb₁.extBut _ _ hDC (Heap.get?_push_of_some _ (hH2 ▸ Heap.get?_push_size _ rfl))
  have fresh : ∀ a, s₂.heap.objs.size ≤ a → s₂.heap.get? a = none := fun a ha => by
    cases e : s₂.heap.get? a with
    | none => rfl
    | some o' => exact absurd (Heap.lt_size e) (Nat.not_lt.mpr ha)
  have fresh₀ : ∀ a, s₂.heap.objs.size ≤ a → h₀.get? a = none := fun a ha => by
    cases e : h₀.get? a with
    | none => rfl
    | some o' => have := F.keep a o' e; rw [fresh a ha] at this; cases this
  have hD₀ : h₀.get? s₂.heap.objs.size = none := fresh₀ _ (Nat.le_refl _)
  have hC₀ : h₀.get? H2.objs.size = none := fresh₀ _ (by rw [hC]; exact Nat.le_succ _)
  have hLlt : L < s₂.heap.objs.size := F.ns.lt
  have hDL : s₂.heap.objs.size ≠ L := Ne.symm (below L hLlt).2
  have hCL : H2.objs.size ≠ L := Ne.symm (below L hLlt).1
  have offC : ∀ p ∈ news, p.1 ≠ H2.objs.size := fun p hp => (below _ (Heap.lt_size (N p hp).1)).1
  have offD : ∀ p ∈ news, p.1 ≠ s₂.heap.objs.size := fun p hp => (below _ (Heap.lt_size (N p hp).1)).2
  have hwr : ∀ b ∈ [z, TO, i1, i2], b ≠ L ∧ h₀.get? b = none ∧ (∀ p ∈ news, p.1 ≠ b) ∧ b ≠ H2.objs.size ∧ b ≠ s₂.heap.objs.size := fun b hb => by
    have q := hz b (by simp only [List.mem_cons, List.not_mem_nil, or_false] at hb ⊢; rcases hb with h | h | h | h <;> simp [h])
    have q2 := below b (hfp b (W.sub b hb))
    exact ⟨q.1, q.2.1, q.2.2, q2.1, q2.2⟩
  have loop : ∀ s₃ : Shared, s₃ = { s₂ with heap := h₁, toks := s₂.toks + ([] : List (Str × Value)).length } →
      codeAny (model prog w) A (.compLoop (.ListComp elt [⟨.Tuple [.Name x px, .Name x₂ px₂] tk0 tp, iter, [ct], 0⟩] scope pos) 0 (.ref z) (.ref s₂.heap.objs.size) (compEnvC scope cl H2.objs.size env))
        (RR (.ref s₂.heap.objs.size) H2.objs.size) s₃ := by
    rintro s₃ rfl
    refine loop_pairT
      (fun k s' => ∃ h' tk i m', s' = { s₂ with heap := h', toks := tk } ∧ i ≤ min xs.size ys.size ∧ k = min xs.size ys.size + 1 - i ∧ ZSt z TI TO i1 i2 l1 l2 xs ys i h' ∧ Fr h₀ L h' m ∧ h'.Ns H2.objs.size m' ∧ News h₀ L h' ((s₂.heap.objs.size, lst []) :: news)) ?_ (min xs.size ys.size + 1)
      ⟨h₁, _, 0, _, rfl, Nat.zero_le _, rfl, W.frame _ _ _ hst fun b _ o e => old b o e, F.keeps old, hns₁, fun p hp => ?_⟩
    · rintro k s' ⟨h', tk, i, m', rfl, hi, rfl, hst', F', hn', N'⟩
      have keepF : ∀ {g g' : Heap} {m}, Fr h₀ L g m → (∀ b o, b ∉ [z, TO, i1, i2] → g.get? b = some o → g'.get? b = some o) → Fr h₀ L g' m := fun {g g' m} Fg hk =>
        ⟨Fg.ns.at' fun o e => hk L o (fun hb => (hwr L hb).1 rfl) e, fun b o e => hk b o (fun hb => by rw [(hwr b hb).2.1] at e; cases e) (Fg.keep b o e), Fg.above⟩
      have keepN : ∀ {g g' : Heap}, News h₀ L g ((s₂.heap.objs.size, lst []) :: news) → (∀ b o, b ∉ [z, TO, i1, i2] → g.get? b = some o → g'.get? b = some o) → News h₀ L g' ((s₂.heap.objs.size, lst []) :: news) := fun {g g'} Ng hk p hp =>
        ⟨hk _ _ (fun hb => by
          have q := hwr _ hb
          rcases List.mem_cons.mp hp with rfl | hp
          · exact q.2.2.2.2 rfl
          · exact q.2.2.1 p hp rfl) (Ng p hp).1, (Ng p hp).2⟩
      by_cases hlt : i < min xs.size ys.size
      · refine W.item i _ _ _ hlt hst' fun T vals h₂ tk₂ hP hTlt hT hMid hk₂ => ?_
        obtain ⟨a, b, ha, hb, rfl⟩ := hP
        refine W.go _ _ _ i T _ _ _ hMid fun h₃ hst₃ hk₃ => ?_
        have hT3 : IsTup h₃ T #[a, b] := by
          obtain ⟨oT, eT, rT⟩ := hT
          exact ⟨oT, hk₃ _ _ (W.apart i T _ hMid) eT, rT⟩
        refine assign_Tuple_tuple hh hT3 rfl rfl fun h₅ he => ?_
        have he' : ∀ b o, h₃.get? b = some o → h₅.get? b = some o := fun b o e => he b o (Nat.ne_of_lt (Heap.lt_size e)) e
        have nsC : ∀ b ∈ [z, TO, i1, i2], H2.objs.size ≠ b := fun b hb e => (hwr b hb).2.2.2.1 e.symm
        have hnC : h₅.Ns H2.objs.size m' := ((hn'.at' fun o e => hk₂ _ o (fun hb => nsC _ hb rfl) e).at' fun o e => hk₃ _ o (fun hb => nsC _ hb rfl) e).at' fun o e => he' _ o e
        refine assignInOrder_cons (wpAny_assign_Name (wpAny_storeName_local (lookup_relabel_local hx) hnC (fun h₆ hn₆ hs₆ => ?_) (by simp [compEnvC, relabel, hkind])))
        refine assignInOrder_cons (wpAny_assign_Name (wpAny_storeName_local (lookup_relabel_local hx₂) hn₆ (fun h₇ hn₇ hs₇ => ?_) (by simp [compEnvC, relabel, hkind])))
        refine assignInOrder_nil ?_
        have old7 : ∀ b o, b ≠ H2.objs.size → h₃.get? b = some o → h₇.get? b = some o := fun b o hb e => hs₇.extBut b o hb (hs₆.extBut b o hb (he' b o e))
        have hst₇ : ZSt z TI TO i1 i2 l1 l2 xs ys (i + 1) h₇ := W.frame _ _ _ hst₃ fun b hb o e => old7 b o (below b (hfp b hb)).1 e
        obtain ⟨oC, heC, hoC⟩ := ns_obj hn₇
        have F₇ : Fr h₀ L h₇ m := (((keepF (keepF F' hk₂) hk₃).keeps he').change hs₆ hCL hC₀).change hs₇ hCL hC₀
        have N₃ := keepN (keepN N' hk₂) hk₃
        have N₇ : News h₀ L h₇ ((s₂.heap.objs.size, lst []) :: news) := fun p hp => ⟨old7 _ _ (by
          rcases List.mem_cons.mp hp with rfl | hp
          · exact hDC
          · exact offC p hp) (N₃ p hp).1, (N₃ p hp).2⟩
        obtain ⟨q1, q2, ⟨c1, c2, q3⟩, ⟨o4, q4, r4⟩, ⟨o5, q5, r5⟩, ⟨o6, q6, r6⟩, ⟨o7, q7, r7⟩⟩ := id hst₇
        obtain ⟨oz, qz⟩ : ∃ o, h₇.get? z = some o := ⟨_, q1⟩
        obtain ⟨o2, q2'⟩ : ∃ o, h₇.get? TI = some o := ⟨_, q2⟩
        obtain ⟨o3, q3'⟩ : ∃ o, h₇.get? TO = some o := ⟨_, q3⟩
        have hN : News h₀ L h₇ ((H2.objs.size, oC) :: ([(z, oz), (TI, o2), (TO, o3), (i1, o4), (i2, o5), (s₂.heap.objs.size, lst [])] ++ news)) := fun p hp => by
          simp only [List.mem_cons, List.mem_append, List.not_mem_nil, or_false] at hp
          rcases hp with rfl | (rfl | rfl | rfl | rfl | rfl | rfl) | hp
          · exact ⟨heC, hCL, hC₀⟩
          · exact ⟨qz, (hz _ (by simp)).1, (hz _ (by simp)).2.1⟩
          · exact ⟨q2', (hz _ (by simp)).1, (hz _ (by simp)).2.1⟩
          · exact ⟨q3', (hz _ (by simp)).1, (hz _ (by simp)).2.1⟩
          · exact ⟨q4, (hz _ (by simp)).1, (hz _ (by simp)).2.1⟩
          · exact ⟨q5, (hz _ (by simp)).1, (hz _ (by simp)).2.1⟩
          · exact N₇ _ List.mem_cons_self
          · exact N₇ _ (List.mem_cons_of_mem _ hp)
        refine wpAny_mono (turn i a b H2.objs.size oC _ _ h₇ _ _ ha hb hoC (by simp [hxx]) (by simp) F₇ hN) (fun ok s₄ h₄ => ?_) fun _ _ e => e
        obtain ⟨rfl, h₈, tk₈, rfl, F₈, N₈⟩ := h₄
        have get8 : ∀ {c : Addr} {oc o : Obj}, (c, oc) ∈ (H2.objs.size, oC) :: ([(z, oz), (TI, o2), (TO, o3), (i1, o4), (i2, o5), (s₂.heap.objs.size, lst [])] ++ news) → h₇.get? c = some oc → h₇.get? c = some o → h₈.get? c = some o := fun hm e1 e2 => by
          rw [e1] at e2; cases e2; exact (N₈ _ hm).1
        refine ⟨rfl, min xs.size ys.size + 1 - (i + 1), by omega, h₈, tk₈, i + 1, _, rfl, hlt, rfl, W.frame _ _ _ hst₇ fun c hc o e => ?_, F₈, hoC.ns (N₈ _ List.mem_cons_self).1, fun p hp => N₈ p (List.mem_cons_of_mem _ ?_)⟩
        · simp only [List.mem_cons, List.not_mem_nil, or_false] at hc
          rcases hc with rfl | rfl | rfl | rfl | rfl | rfl | rfl
          · exact get8 (by simp) qz e
          · exact get8 (List.mem_cons_of_mem _ (by simp)) q2' e
          · exact get8 (List.mem_cons_of_mem _ (by simp)) q3' e
          · exact get8 (List.mem_cons_of_mem _ (by simp)) q4 e
          · exact get8 (List.mem_cons_of_mem _ (by simp)) q5 e
          · obtain ⟨ol, hol⟩ := hl1
            exact get8 (List.mem_cons_of_mem _ (List.mem_append_right _ hol)) (N₇ _ (List.mem_cons_of_mem _ hol)).1 e
          · obtain ⟨ol, hol⟩ := hl2
            exact get8 (List.mem_cons_of_mem _ (List.mem_append_right _ hol)) (N₇ _ (List.mem_cons_of_mem _ hol)).1 e
        · rcases List.mem_cons.mp hp with rfl | hp
          · simp
          · exact List.mem_append_right _ hp
      · obtain rfl : i = min xs.size ys.size := Nat.le_antisymm hi (Nat.not_lt.mp hlt)
        refine W.done _ _ _ hst' fun h₂ tk₂ hk₂ => ?_
        have nsC : ∀ b ∈ [z, TO, i1, i2], H2.objs.size ≠ b := fun b hb e => (hwr b hb).2.2.2.1 e.symm
        exact hRR _ _ h₂ tk₂ _ (keepF F' hk₂) (keepN N' hk₂) offD (hn'.at' fun o e => hk₂ _ o (fun hb => nsC _ hb rfl) e) hC₀ hD₀ hCL hDL (Ne.symm hDC) offC
    · rcases List.mem_cons.mp hp with rfl | hp
      · exact ⟨hacc, hDL, hD₀⟩
      · exact ⟨old _ _ (N p hp).1, (N p hp).2⟩
  exact codeAny_compStart_list (loop _ rfl) (W.self 0 _ _ _ (W.frame _ _ _ hst fun b _ o e => old b o e) (loop _ rfl))

def ZTurn (prog : Program) (w : World) (A : Around) (h₀ : Heap) (L : Addr) (m : Str → Option Value) (env : Env) (ct : PySem.Expr) (x x₂ : Str) (scope : Scope) (cl : List (Str × Addr)) (s : Shared) (xs ys : Array Value) (news : Led) : Prop :=
  ∀ (i : Nat) v₁ v₂ C oC m₂ zs h tk (E' : Value → Shared → Prop), xs[i]? = some v₁ → ys[i]? = some v₂ → NsObj oC m₂ → m₂ x = some v₁ → m₂ x₂ = some v₂ → Fr h₀ L h m → News h₀ L h ((C, oC) :: (zs ++ news)) →
      wpAny (model prog w) A (isTrue ct (compEnvC scope cl C env) (eval ct (compEnvC scope cl C env))) (fun ok s' => ok = false ∧ ∃ h' tk', s' = { s with heap := h', toks := tk' } ∧ Fr h₀ L h' m ∧ News h₀ L h' ((C, oC) :: (zs ++ news))) E' { s with heap := h, toks := tk }
def ZSrc (prog : Program) (w : World) (A : Around) (h₀ : Heap) (L : Addr) (m : Str → Option Value) (env : Env) (ct : PySem.Expr) (x x₂ : Str) (scope : Scope) (cl : List (Str × Addr)) (Q : Value → Shared → Prop) (xv : Value) (s : Shared) : Prop :=
  ∃ z TI TO i1 i2 l1 l2 xs ys news, xv = .ref z ∧ A.handled = none ∧ ZipApart z TI TO i1 i2 l1 l2 ∧ ZSt z TI TO i1 i2 l1 l2 xs ys 0 s.heap ∧ Fr h₀ L s.heap m ∧ News h₀ L s.heap news ∧
    (∀ b ∈ [z, TI, TO, i1, i2], b ≠ L ∧ h₀.get? b = none ∧ ∀ p ∈ news, p.1 ≠ b) ∧ (∃ o, (l1, o) ∈ news) ∧ (∃ o, (l2, o) ∈ news) ∧ ZTurn prog w A h₀ L m env ct x x₂ scope cl s xs ys news ∧
    ∀ D h tk, Fr h₀ L h m → News h₀ L h ((D, lst []) :: news) → (∀ p ∈ news, p.1 ≠ D) → Q (.ref D) { s with heap := h, toks := tk }
theorem ListComp_Z {ct elt iter : PySem.Expr} {x x₂ : Str} {px px₂ tp : Pos} {tk0} {scope : Scope} {cl : List (Str × Addr)} {pos : Pos} {Q : Value → Shared → Prop} (_F₀ : Fr h₀ L s.heap m)
    (hclos : closureFor scope env = pure cl) (hcell : ∀ y ∈ scope.names, y.2 ≠ .cell) (hkind : scope.kind = .function)
    (hnames : ∀ y ∈ scope.names, y.2 = .local → scope.names.lookup y.1 = some .local) (hx : scope.names.lookup x = some .local) (hx₂ : scope.names.lookup x₂ = some .local) (hxx : x ≠ x₂)
    (h : wpAny (model prog w) A (eval iter env) (ZSrc prog w A h₀ L m env ct x x₂ scope cl Q) E s)
    (hs : ∀ x, foldedSetIterable iter env x = pure x := by intro _; rfl) :
    wpAny (model prog w) A (eval (.ListComp elt [⟨.Tuple [.Name x px, .Name x₂ px₂] tk0 tp, iter, [ct], 0⟩] scope pos) env) Q E s := by
  rw [eval_ListComp]
  refine wpAny_comprehension_free (use := none) rfl hs hclos hkind hnames (wpAny_mono h (fun xv s₁ h₁ => ?_) fun _ _ e => e)
  obtain ⟨z, TI, TO, i1, i2, l1, l2, xs, ys, news, rfl, hh, Dz, hst, F, N, hz, hl1, hl2, turn, fin⟩ := h₁
  refine (WalksT.zip2 (prog := prog) (w := w) hh z TI TO i1 i2 l1 l2 Dz xs ys).self 0 _ _ _ hst ?_
  refine block_Z hh Dz hst hcell hkind hx hx₂ hxx F N hz hl1 hl2 turn ?_
  intro D C h tk m' F' N' o1 hn hC₀ hD₀ hCL hDL hCD offC
  refine ⟨m', hn, fun h'' hs'' => fin D h'' tk (F'.change hs'' hCL hC₀) (fun p hp => ?_) o1⟩
  refine ⟨hs''.extBut _ _ ?_ (N' p hp).1, (N' p hp).2⟩
  rcases List.mem_cons.mp hp with rfl | hp
  · exact Ne.symm hCD
  · exact offC p hp
theorem zip_src {ct : PySem.Expr} {x x₂ : Str} {scope : Scope} {cl : List (Str × Addr)} {Q : Value → Shared → Prop} {l1 l2 : Addr} {us vs : List Value} {n k : Nat} {news : Led}
    (hh : A.handled = none) (F : Fr h₀ L s.heap m) (N : News h₀ L s.heap news) (m1 : (l1, listOf us.toArray n) ∈ news) (m2 : (l2, listOf vs.toArray k) ∈ news)
    (turn : ZTurn prog w A h₀ L m env ct x x₂ scope cl s us.toArray vs.toArray news)
    (fin : ∀ D h tk, Fr h₀ L h m → News h₀ L h ((D, lst []) :: news) → (∀ p ∈ news, p.1 ≠ D) → Q (.ref D) { s with heap := h, toks := tk }) :
    wpAny (model prog w) A (call (.type "zip") [.ref l1, .ref l2]) (ZSrc prog w A h₀ L m env ct x x₂ scope cl Q) E s := by
  have hls1 : s.heap.IsList l1 us.toArray := ⟨_, (N _ m1).1, rfl, n, rfl⟩
  have hls2 : s.heap.IsList l2 vs.toArray := ⟨_, (N _ m2).1, rfl, k, rfl⟩
  have a1 : l1 < s.heap.objs.size := Heap.lt_size (N _ m1).1
  have a2 : l2 < s.heap.objs.size := Heap.lt_size (N _ m2).1
  have hLs : L < s.heap.objs.size := F.ns.lt
  have hab : h₀.objs.size ≤ L := F.above
  refine call_zip_2 hls1 hls2 fun h' hz hTI hTO hit1 hit2 hsz hk => ?_
  have F' : Fr h₀ L h' m := ⟨F.ns.keeps hk, fun b o e => hk b o (F.keep b o e), F.above⟩
  have N' : News h₀ L h' news := fun p hp => ⟨hk _ _ (N p hp).1, (N p hp).2⟩
  refine ⟨_, _, _, _, _, l1, l2, us.toArray, vs.toArray, news, rfl, hh, zipApart_new a1 a2, ⟨hz, hTI, ⟨_, _, hTO⟩, hit1, hit2, hls1.at fun o e => hk l1 o e, hls2.at fun o e => hk l2 o e⟩, F', N', ?_, ⟨_, m1⟩, ⟨_, m2⟩, turn, fin⟩
  have up : ∀ j, (s.heap.objs.size + j ≠ L) ∧ h₀.get? (s.heap.objs.size + j) = none ∧ ∀ p ∈ news, p.1 ≠ s.heap.objs.size + j := fun j =>
    ⟨Nat.ne_of_gt (Nat.lt_of_lt_of_le hLs (Nat.le_add_right _ j)), Heap.get?_none_of_le (Nat.le_trans hab (Nat.le_trans (Nat.le_of_lt hLs) (Nat.le_add_right _ j))), fun p hp e => Nat.ne_of_lt (Nat.lt_of_lt_of_le (Heap.lt_size (N p hp).1) (Nat.le_add_right _ j)) e⟩
  intro b hb
  simp only [List.mem_cons, List.not_mem_nil, or_false] at hb
  rcases hb with rfl | rfl | rfl | rfl | rfl
  · exact up 4
  · exact up 2
  · exact up 3
  · exact up 0
  · exact up 1
end
theorem unit_j1_comp : True := by
  w_top off
  trivial
--@nofill
/-! ## comprehensions over a ledger's list -/
section
variable {prog : Program} {w : World} {A : Around} {h₀ : Heap} {L : Addr} {m : Str → Option Value} {env : Env} {ct elt : PySem.Expr} {x : Str} {scope : Scope} {cl : List (Str × Addr)} {s : Shared} {S : Led → Prop} {Fin : List Value → Led → Prop}
theorem comp_dat {α : Type} {as : List α} {base : Led} {its : Array Value} (Rel : α → Value → Prop) (G : α → Dat) (hS : ∀ e, S (e ++ base)) (hsz : its.size = as.length) (hrel : ∀ (i : Nat) v, its[i]? = some v → ∃ a, as[i]? = some a ∧ Rel a v)
    (turn : ∀ a v cur ys I oI C oC D m₂ h tk (E' : Value → Shared → Prop), a ∈ as → Rel a v → (∀ p ∈ base, p ∈ cur) → (∀ e, S (e ++ cur)) → LCg.NsObj oC m₂ → m₂ x = some v → Fr h₀ L h m → News h₀ L h ((I, oI) :: (C, oC) :: (D, LCg.lst ys) :: cur) → LCg.Off3 I C D cur → ((@Ne Nat I C) ∧ (@Ne Nat I D) ∧ (@Ne Nat C D)) →
      wpAny (model prog w) A (eval elt (compEnvC scope cl C env)) (LCg.CompEnd h₀ L m { s with heap := h, toks := tk } I oI C oC D (LCg.lst ys) S (fun y news' => ∃ e, news' = e ++ cur ∧ DatIn news' y (G a))) E' { s with heap := h, toks := tk })
    (fin : ∀ ys own, DatAll (own ++ base) ys (as.map G) → Fin ys (own ++ base)) : LCg.CompRest prog w A h₀ L m env elt x scope cl s S (fun i v => its[i]? = some v) Fin its.size 0 [] base := by
  have key : ∀ (j i : Nat) (ys : List Value) (own : Led), i + j = as.length → DatAll (own ++ base) ys ((as.take i).map G) → LCg.CompRest prog w A h₀ L m env elt x scope cl s S (fun i v => its[i]? = some v) Fin j i ys (own ++ base) := by
    intro j
    induction j with
    | zero =>
      intro i ys own hi hy
      rw [List.take_of_length_le (by omega)] at hy
      exact LCg.CompRest.zero (fin ys own hy)
    | succ j ih =>
      intro i ys own hi hy
      refine LCg.CompRest.succ ?_
      intro v I oI C oC D m₂ h tk E' hv hC hx F N off ne
      obtain ⟨a, ha, hr⟩ := hrel i v hv
      refine wpAny_mono (turn a v (own ++ base) ys I oI C oC D m₂ h tk E' (List.mem_of_getElem? ha) hr (fun p hp => List.mem_append_right _ hp) (fun e => by rw [← List.append_assoc]; exact hS _) hC hx F N off ne) (fun y s₂ hq => ?_) fun _ _ e => e
      obtain ⟨h', tk', nw, e, F', N', off', hS', e2, hn, hd⟩ := hq
      subst hn
      refine ⟨h', tk', e2 ++ (own ++ base), e, F', N', off', hS', ?_⟩
      rw [← List.append_assoc]
      refine ih (i + 1) _ _ (by omega) ?_
      rw [List.append_assoc, List.take_add_one, ha, Option.toList_some, List.map_append]
      exact .append (hy.mono fun p hp => List.mem_append_right _ hp) (.one hd)
  rw [hsz]
  exact key as.length 0 [] [] (by omega) .nil
theorem dat_rel {α : Type} {as : List α} {base : Led} {us : List Value} {f : α → Dat} (h : DatAll base us (as.map f)) : us.toArray.size = as.length ∧ ∀ (i : Nat) v, us.toArray[i]? = some v → ∃ a, as[i]? = some a ∧ DatIn base v (f a) := by
  have hl := h.length
  rw [List.length_map] at hl
  refine ⟨by rw [List.size_toArray, hl], fun i v hv => ?_⟩
  have hi : i < us.length := by
    have := (Array.getElem?_eq_some_iff.mp hv).1
    simpa using this
  obtain ⟨v', h1, h2⟩ := h.get (k := i) (by rw [List.length_map]; omega)
  rw [List.getElem?_toArray] at hv
  rw [h1] at hv
  cases hv
  refine ⟨as[i]'(by omega), List.getElem?_eq_getElem _, ?_⟩
  simpa using h2
theorem comp_end1 {h₀ : Heap} {L : Addr} {m : Str → Option Value} {s : Shared} {I C D T : Addr} {oI oC oD o : Obj} {S : Led → Prop} {cur : Led} {h' : Heap} {tk : Nat} {d : Dat}
    (F : Fr h₀ L h' m) (N : News h₀ L h' ((T, o) :: (I, oI) :: (C, oC) :: (D, oD) :: cur)) (off : LCg.Off3 I C D cur) (hl : (@LT.lt Nat _ I T) ∧ (@LT.lt Nat _ C T) ∧ (@LT.lt Nat _ D T) ∧ AllLt T cur) (hS : ∀ e, S (e ++ cur)) (hd : DatIn ((T, o) :: cur) (.ref T) d) :
    LCg.CompEnd h₀ L m s I oI C oC D oD S (fun y news' => ∃ e, news' = e ++ cur ∧ DatIn news' y d) (.ref T) { s with heap := h', toks := tk } :=
  LCg.CompEnd.intro F N ([(T, o)] ++ cur) (fun p hp => by
    simp only [List.mem_cons, List.cons_append, List.nil_append] at hp ⊢
    rcases hp with h | h | h | h | h <;> simp [h]) ⟨⟨Nat.ne_of_gt hl.1, Nat.ne_of_gt hl.2.1, Nat.ne_of_gt hl.2.2.1⟩, off⟩ (hS _) ⟨[(T, o)], rfl, hd⟩
end
theorem unit_j2_told : True := by
  w_top off
  trivial
/-! ## _law_is_told -/
inductive Told : List NumT → List MetT → Prop
  | nil : Told [] []
  | cons {a b : Int} {v : Int × Int} {o : Option (Int × Int)} {qs : List NumT} {ms : List MetT} : (∀ p, o = some p → p = v) → Told qs ms → Told ((a, b, v) :: qs) ((a, b, o) :: ms)
theorem told_len : ∀ {qs : List NumT} {ms : List MetT}, Told qs ms → qs.length = ms.length
  | _, _, .nil => rfl
  | _, _, .cons _ h => by rw [List.length_cons, List.length_cons, told_len h]
theorem told_cut : ∀ {qs : List NumT} {ms : List MetT}, Told qs ms → qs.map (fun q => Dat.tuple [.int q.1, .int q.2.1]) = ms.map (fun q => Dat.tuple [.int q.1, .int q.2.1])
  | _, _, .nil => rfl
  | _, _, .cons _ h => by rw [List.map_cons, List.map_cons, told_cut h]
theorem told_at : ∀ {qs : List NumT} {ms : List MetT}, Told qs ms → ∀ (i : Nat) {q : NumT} {r : MetT}, qs[i]? = some q → ms[i]? = some r → ∀ p, r.2.2 = some p → p = q.2.2
  | _, _, .nil, i, q, r, h, _ => by simp at h
  | _, _, .cons h _, 0, q, r, h1, h2 => by
    simp only [List.getElem?_cons_zero, Option.some.injEq] at h1 h2
    subst h1; subst h2; exact h
  | _, _, .cons _ t, i + 1, q, r, h1, h2 => by
    simp only [List.getElem?_cons_succ] at h1 h2
    exact told_at t i h1 h2
theorem numD_in {base : Led} {v : Value} {q : NumT} (h : DatIn base v (numD q)) : ∃ (T T2 : Addr) (t1 t2 u1 u2 : Tok) (n n2 : Nat), v = .ref T ∧ (T, ({ cls := .type "tuple", data := .seq [Value.int q.1 t1, Value.int q.2.1 t2, Value.ref T2].toArray n } : Obj)) ∈ base ∧ (T2, ({ cls := .type "tuple", data := .seq [Value.int q.2.2.1 u1, Value.int q.2.2.2 u2].toArray n2 } : Obj)) ∈ base := by
  unfold numD at h
  cases h with
  | tuple hm hv =>
    cases hv with
    | cons h1 hv =>
      cases h1 with
      | int _ t1 =>
        cases hv with
        | cons h2 hv =>
          cases h2 with
          | int _ t2 =>
            cases hv with
            | cons h3 hv =>
              cases hv with
              | nil =>
                cases h3 with
                | tuple hm2 hv2 =>
                  cases hv2 with
                  | cons h4 hv2 =>
                    cases h4 with
                    | int _ u1 =>
                      cases hv2 with
                      | cons h5 hv2 =>
                        cases h5 with
                        | int _ u2 =>
                          cases hv2 with
                          | nil => exact ⟨_, _, t1, t2, u1, u2, _, _, rfl, hm, hm2⟩
theorem pair_in {base : Led} {v : Value} {p : Int × Int} (h : DatIn base v (optD (some p))) : ∃ (T : Addr) (u1 u2 : Tok) (n : Nat), v = .ref T ∧ (T, ({ cls := .type "tuple", data := .seq [Value.int p.1 u1, Value.int p.2 u2].toArray n } : Obj)) ∈ base := by
  have h : DatIn base v (dPair p.1 p.2) := h
  cases h with
  | tuple hm hv =>
    cases hv with
    | cons h1 hv =>
      cases h1 with
      | int _ u1 =>
        cases hv with
        | cons h2 hv =>
          cases h2 with
          | int _ u2 =>
            cases hv with
            | nil => exact ⟨_, u1, u2, _, rfl, hm⟩
theorem metD_in {base : Led} {v : Value} {q : MetT} (h : DatIn base v (metD q)) : ∃ (T : Addr) (t1 t2 : Tok) (x : Value) (n : Nat), v = .ref T ∧ (T, ({ cls := .type "tuple", data := .seq [Value.int q.1 t1, Value.int q.2.1 t2, x].toArray n } : Obj)) ∈ base ∧ DatIn base x (optD q.2.2) := by
  unfold metD at h
  cases h with
  | tuple hm hv =>
    cases hv with
    | cons h1 hv =>
      cases h1 with
      | int _ t1 =>
        cases hv with
        | cons h2 hv =>
          cases h2 with
          | int _ t2 =>
            cases hv with
            | cons h3 hv =>
              cases hv with
              | nil => exact ⟨_, t1, t2, _, _, rfl, hm, h3⟩
section
local macro_rules | `(tactic| walk_at "eval ListComp") => `(tactic| (k_here; (with_reducible show wpAny _ _ (eval (PySem.Expr.ListComp _ [⟨.Tuple _ _ _, _, _, _⟩] _ _) _) _ _ _); refine hold ?_))
local macro_rules | `(tactic| walk_at "call type:zip") => `(tactic| (refine hold ?_))
local macro_rules | `(tactic| walk_at "CompSrc") => `(tactic| (refine hold ?_))
local macro_rules | `(tactic| walk_at "CompSrcT") => `(tactic| (refine hold ?_))
local macro_rules | `(tactic| walk_at "CompEnd") => `(tactic| (refine hold ?_))
theorem is_told_c (w : World) (news : Led) (a b : Addr) (us vs : List Value) (n k : Nat) (qs : List NumT) (ms : List MetT) (ha : (a, listOf us.toArray n) ∈ news) (hb : (b, listOf vs.toArray k) ∈ news) (da : DatAll news us (qs.map numD)) (db : DatAll news vs (ms.map metD)) (ht : Told qs ms) (hq : qs.length < 10) :
    Spec w 351 [.ref a, .ref b] 8 news (fun v nx => nx = news ∧ v = .bool true) := by
  intro mean mg mb dp un gd cn cs ad ccd cl outer A₀ base h₀ L m s Q E B F X N T hk hd hu ret
  refine wpAny_call ?_
  k_dflt ktr_enter
  rename Fr _ _ _ _ => F0
  have F1 : Fr _ _ _ (fun y => List.lookup y [(Str.ofString "due", Value.ref b), (Str.ofString "told", Value.ref a)]) := F0
  clear F0
  k_steps
  unfold Hold
  rename Fr _ _ _ _ => lF'
  rename News _ _ _ _ => lN'
  k_dflt (refine LCg.CompSrc.ledger rfl lF' lN' ha (by rw [(dat_rel da).1, sizeLine_eq]; omega) ?_)
  intro g
  refine comp_dat (fun q v => DatIn news v (numD q)) (fun q => .tuple [.int q.1, .int q.2.1]) (fun e => .inr ⟨_, List.mem_append_right _ ha, rfl, _, rfl⟩) (dat_rel da).1 (dat_rel da).2 (fun q v cur ys I oI C oC D m₂ h tk E' hq hr hsub hS hC hx F N off ne => ?_) ?_
  · obtain ⟨T, T2, t1, t2, u1, u2, n1, n2, rfl, hm, hm2⟩ := numD_in hr
    have hm := hsub _ hm
    k_steps
    unfold Hold
    exact comp_end1 (by assumption) (by assumption) off (by assumption) hS (.tuple (vs := [_, _]) (.head _) (.cons (.int _ _) (.cons (.int _ _) .nil)))
  · intro ys own hd1
    k_steps
    unfold Hold
    clear lF' lN'
    rename Fr _ _ _ _ => lF'
    rename News _ _ _ _ => lN'
    rename_i D1 _ _ o1
    have hb1 : (b, listOf vs.toArray k) ∈ (D1, LCg.lst ys) :: (own ++ news) := .tail _ (List.mem_append_right _ hb)
    have db1 := db.mono (fun p hp => List.Mem.tail (D1, LCg.lst ys) (List.mem_append_right own hp))
    k_dflt (refine LCg.CompSrc.ledger rfl lF' lN' hb1 (by rw [(dat_rel db1).1, sizeLine_eq, ← told_len ht]; omega) ?_)
    intro g2
    refine comp_dat (fun q v => DatIn ((D1, LCg.lst ys) :: (own ++ news)) v (metD q)) (fun q => .tuple [.int q.1, .int q.2.1]) (fun e => .inr ⟨_, List.mem_append_right _ hb1, rfl, _, rfl⟩) (dat_rel db1).1 (dat_rel db1).2 (fun q v cur ys I oI C oC D m₂ h tk E' hq hr hsub hS hC hx F N off ne => ?_) ?_
    · obtain ⟨T, t1, t2, x, n1, rfl, hm, hm2⟩ := metD_in hr
      have hm := hsub _ hm
      k_steps
      unfold Hold
      exact comp_end1 (by assumption) (by assumption) off (by assumption) hS (.tuple (vs := [_, _]) (.head _) (.cons (.int _ _) (.cons (.int _ _) .nil)))
    · intro zs own2 hd2
      k_steps
      clear lF' lN'
      rename News _ _ _ _ => nN
      k_dflt (refine kqd_ne nN (.tail _ (List.mem_append_right _ (.head _))) rfl rfl hd1 (fun p hp => .tail _ (List.mem_append_right _ (.tail _ hp))) (.head _) rfl rfl hd2 (fun p hp => .tail _ hp) ?_ ?_ (by simp only [units_deeper, units_in1, Around.mark_units]; (try dsimp only [ktrTop]); omega) ?_)
      · intro d hd; obtain ⟨x, _, rfl⟩ := List.mem_map.mp hd; rfl
      · intro d hd; obtain ⟨x, _, rfl⟩ := List.mem_map.mp hd; rfl
      have hcut : ∀ i : Decidable (qs.map (fun q => Dat.tuple [.int q.1, .int q.2.1]) = ms.map (fun q => Dat.tuple [.int q.1, .int q.2.1])), (!@decide _ i) = false := fun i => by
        rw [Bool.not_eq_false', decide_eq_true_iff]; exact told_cut ht
      rw [hcut]
      rename Fr _ _ _ _ => nF
      k_steps
      unfold Hold
      k_dflt (refine ListComp_Z nF (by rfl) (by decide) (by rfl) (by decide) (by rfl) (by rfl) (by decide) ?_)
      k_steps
      unfold Hold
      have nM : News _ _ _ news := cb_drop nN (fun p hp => .tail _ (List.mem_append_right _ (.tail _ (List.mem_append_right _ hp))))
      k_dflt (refine zip_src rfl nF nM ha hb ?_ ?_)
      · clear nN nM nF
        intro i v₁ v₂ C oC m₂ zz h tk E' e1 e2 hC hx hx2 F N
        obtain ⟨q, eq, dq⟩ := (dat_rel da).2 i v₁ e1
        obtain ⟨r, er, dr⟩ := (dat_rel db).2 i v₂ e2
        have hqr := told_at ht i eq er
        obtain ⟨T, T2, t1, t2, u1, u2, n1, n2, rfl, hm, hm2⟩ := numD_in dq
        obtain ⟨T3, t3, t4, x3, n3, rfl, hm3, hd3⟩ := metD_in dr
        cases hr : r.2.2 with
        | none =>
          rw [hr] at hd3
          cases hd3
          have hm := List.mem_cons_of_mem (C, oC) (List.mem_append_right zz hm)
          have hm3 := List.mem_cons_of_mem (C, oC) (List.mem_append_right zz hm3)
          k_steps
          · exact F
          · exact N
        | some p =>
          rw [hr] at hd3
          have hp := hqr p hr
          obtain ⟨T4, w1, w2, n4, rfl, hm4⟩ := pair_in hd3
          subst hp
          have hm := List.mem_cons_of_mem (C, oC) (List.mem_append_right zz hm)
          have hm2 := List.mem_cons_of_mem (C, oC) (List.mem_append_right zz hm2)
          have hm3 := List.mem_cons_of_mem (C, oC) (List.mem_append_right zz hm3)
          have hm4 := List.mem_cons_of_mem (C, oC) (List.mem_append_right zz hm4)
          k_steps
          · exact F
          · exact N
      · intro D h tk F N o1
        clear nN nM nF
        k_steps
        exact ret _ _ _ _ ⟨rfl, rfl⟩ (by assumption) (cb_drop (by assumption) (by kcf_all))
end
local macro_rules | `(tactic| walk_at "mine pad60") => `(tactic| skip)
local macro_rules | `(tactic| walk_at "mine pad61") => `(tactic| skip)
local macro_rules | `(tactic| walk_at "mine pad62") => `(tactic| skip)
local macro_rules | `(tactic| walk_at "mine pad63") => `(tactic| skip)
local macro_rules | `(tactic| walk_at "mine pad64") => `(tactic| skip)
local macro_rules | `(tactic| walk_at "mine pad65") => `(tactic| skip)
theorem unit_k1_next : True := by
  w_top off
  trivial
/-! ## _law_next -/
section
local macro_rules | `(tactic| k_all) => `(tactic| assumption)
theorem law_next_c (w : World) (rest : Led) (rw cl : Addr) (k : Int) (tk0 : Tok) (n : Nat) (cells : List Int) (below : Int) (tb : Tok) (hr : ∀ p ∈ rest, p.1 ≠ rw) (hc : TL rest cl cells) (hl : cells.length < 100) (hk0 : 0 ≤ k) (hk1 : k < 1000) (hb : 0 < below) (hb1 : below < 1000) :
    Spec w 299 [.ref rw, .int below tb] 1 ((rw, listOf #[Value.int k tk0, Value.ref cl] n) :: rest) (fun v nx => ∃ (x : Int) (t u : Tok) (n' : Nat), v = .int x t ∧ 0 ≤ x ∧ x < below ∧ nx = (rw, listOf #[Value.int (k + 1) u, Value.ref cl] n') :: rest) := by
  intro mean mg mb dp un gd cn cs a ccd cl0 outer A₀ base h₀ L m s Q E B F X N T hk hd hu ret
  refine wpAny_call ?_
  k_dflt ktr_enter
  rename Fr _ _ _ _ => F0
  have F1 : Fr _ _ _ (fun y => List.lookup y [(Str.ofString "below", Value.int below tb), (Str.ofString "row", Value.ref rw)]) := F0
  clear F0
  k_steps
  all_goals exact ret _ _ _ _ ⟨_, _, _, _, rfl, Int.fmod_nonneg_of_pos _ hb, Int.fmod_lt_of_pos _ hb, rfl⟩ (by assumption) (by assumption)
end
local macro_rules | `(tactic| walk_at "mine pad66") => `(tactic| skip)
local macro_rules | `(tactic| walk_at "mine pad67") => `(tactic| skip)
--@M
local macro_rules | `(tactic| walk_at "call ref cons nil") => `(tactic| (k_here; (with_reducible show wpAny _ _ (call (Value.ref 299) _ _) _ _ _); k_dflt (refine' Spec.use ?B ?F ?X ?N ?T ?K (law_next_c _ _ _ _ _ _ _ _ _ _ ?h1 ?h2 ?h3 ?h4 ?h5 ?h6 ?h7) ?d ?u ?_; (case B => k_asm); (case F => k_asm); (case X => k_asm); (case N => k_asm); (case T => k_asm); (case K => first | exact rfl | assumption); (case h1 => assumption); (case h2 => assumption); (case h3 => first | assumption | omega); (case h4 => first | assumption | omega); (case h5 => first | assumption | omega); (case h6 => omega); (case h7 => omega); (case d => ktr_room); (case u => ktr_units); k_whole); (intro v' nx' h' tk' O' F' N'; (obtain ⟨x1, t1, u1, n1, e2, b1, b2, e1⟩ := O'); subst nx'; subst e2); ((try k_sweep); (try dsimp only); (try k_fold))))
--@E
theorem unit_k2_code : True := by
  w_top off
  trivial
/-! ## _law_code -/
theorem alpha_48 {x : Int} (h0 : 0 ≤ x) (h1 : x < 10) : 48 + x ∈ Alpha := by
  have : x = 0 ∨ x = 1 ∨ x = 2 ∨ x = 3 ∨ x = 4 ∨ x = 5 ∨ x = 6 ∨ x = 7 ∨ x = 8 ∨ x = 9 := by omega
  rcases this with h | h | h | h | h | h | h | h | h | h <;> subst h <;> decide
theorem alpha_1632 {x : Int} (h0 : 0 ≤ x) (h1 : x < 10) : 1632 + x ∈ Alpha := by
  have : x = 0 ∨ x = 1 ∨ x = 2 ∨ x = 3 ∨ x = 4 ∨ x = 5 ∨ x = 6 ∨ x = 7 ∨ x = 8 ∨ x = 9 := by omega
  rcases this with h | h | h | h | h | h | h | h | h | h <;> subst h <;> decide
theorem alpha_order {x : Int} (h0 : 0 ≤ x) (h1 : x < 8) : ([189, 8533, 3884, 8548, 178, 12295, 3891, 8542] : List Int).getD x.toNat 0 ∈ Alpha := by
  have : x = 0 ∨ x = 1 ∨ x = 2 ∨ x = 3 ∨ x = 4 ∨ x = 5 ∨ x = 6 ∨ x = 7 := by omega
  rcases this with h | h | h | h | h | h | h | h <;> subst h <;> decide
theorem law_code_c (w : World) (rest : Led) (rw cl : Addr) (k : Int) (tk0 : Tok) (n : Nat) (cells : List Int) (hr : ∀ p ∈ rest, p.1 ≠ rw) (hc : TL rest cl cells) (hl : cells.length < 100) (hk0 : 0 ≤ k) (hk1 : k < 900) :
    Spec w 313 [.ref rw] 2 ((rw, listOf #[Value.int k tk0, Value.ref cl] n) :: rest) (fun v nx => ∃ (c k' : Int) (t u : Tok) (n' : Nat), v = .int c t ∧ c ∈ Alpha ∧ k ≤ k' ∧ k' ≤ k + 2 ∧ nx = (rw, listOf #[Value.int k' u, Value.ref cl] n') :: rest) := by
  intro mean mg mb dp un gd cn cs a ccd cl0 outer A₀ base h₀ L m s Q E B F X N T hk hd hu ret
  refine wpAny_call ?_
  k_dflt ktr_enter
  rename Fr _ _ _ _ => F0
  have F1 : Fr _ _ _ (fun y => List.lookup y [(Str.ofString "row", Value.ref rw)]) := F0
  clear F0
  k_steps
  · exact ret _ _ _ _ ⟨_, k + 1 + 1, _, _, _, rfl, alpha_48 (by assumption) (by assumption), by omega, by omega, rfl⟩ (by assumption) (by assumption)
  · exact ret _ _ _ _ ⟨_, k + 1 + 1, _, _, _, rfl, alpha_1632 (by assumption) (by assumption), by omega, by omega, rfl⟩ (by assumption) (by assumption)
  · exact ret _ _ _ _ ⟨_, k + 1, _, _, _, rfl, by decide, by omega, by omega, rfl⟩ (by assumption) (by assumption)
  · exact ret _ _ _ _ ⟨_, k + 1 + 1, _, _, _, rfl, alpha_order (by assumption) (by assumption), by omega, by omega, rfl⟩ (by assumption) (by assumption)
  · exact ret _ _ _ _ ⟨_, k + 1, _, _, _, rfl, by decide, by omega, by omega, rfl⟩ (by assumption) (by assumption)
--@M
local macro_rules | `(tactic| walk_at "call ref cons nil") => `(tactic| (k_here; (with_reducible show wpAny _ _ (call (Value.ref 313) _ _) _ _ _); k_dflt (refine' Spec.use ?B ?F ?X ?N ?T ?K (law_code_c _ _ _ _ _ _ _ _ ?h1 ?h2 ?h3 ?h4 ?h5) ?d ?u ?_; (case B => k_asm); (case F => k_asm); (case X => k_asm); (case N => k_asm); (case T => k_asm); (case K => first | exact rfl | assumption); (case h1 => assumption); (case h2 => assumption); (case h3 => first | assumption | omega); (case h4 => first | assumption | omega); (case h5 => first | assumption | omega); (case d => ktr_room); (case u => ktr_units); k_whole); (intro v' nx' h' tk' O' F' N'; (obtain ⟨x1, k1, t1, u1, n1, e2, b1, b2, b3, e1⟩ := O'); subst nx'; subst e2); ((try k_sweep); (try dsimp only); (try k_fold))))
--@E
theorem unit_m1_like : True := by
  w_top off
  trivial
/-! ## range_are_like -/
theorem like_int_c (w : World) (news : Led) (x y : Int) (tx ty : Tok) :
    Spec w 185 [.int x tx, .int y ty] 2 news (fun v nx => nx = news ∧ v = .bool (decide (x = y))) := by
  intro mean mg mb dp un gd cn cs a ccd cl0 outer A₀ base h₀ L m s Q E B F X N T hk hd hu ret
  refine wpAny_call ?_
  k_dflt walk_at "mine enterC"
  k_steps
  · exact ret _ _ _ _ ⟨rfl, by rw [decide_eq_true (by assumption)]; rfl⟩ (by assumption) (cb_drop (by assumption) (by kcf_all))
  · exact ret _ _ _ _ ⟨rfl, congrArg Value.bool (by rw [decide_eq_false (by assumption)]; simpa using (by assumption : ¬ x = y))⟩ (by assumption) (cb_drop (by assumption) (by kcf_all))
theorem like_ns_c (w : World) (news : Led) (x : Str) (t : Tok) : Spec w 185 [.none, .str x t] 2 news (fun v nx => nx = news ∧ v = .bool false) := by
  intro mean mg mb dp un gd cn cs a ccd cl0 outer A₀ base h₀ L m s Q E B F X N T hk hd hu ret
  refine wpAny_call ?_
  k_dflt walk_at "mine enterC"
  k_steps
  exact ret _ _ _ _ ⟨rfl, rfl⟩ (by assumption) (cb_drop (by assumption) (by kcf_all))
theorem nt_eq {prog : Program} {w : World} {A : Around} {E : Value → Shared → Prop} {s : Shared} {h₀ : Heap} {L T : Addr} {cur : Led} {vs : List Value} {n : Nat} {Q : Value → Shared → Prop} (N : News h₀ L s.heap cur) (hm : (T, ({ cls := .type "tuple", data := .seq vs.toArray n } : Obj)) ∈ cur) (hu : A.units < cLine) (h : Q (.bool false) s) :
    wpAny (model prog w) A (compareOp .Eq .none (.ref T)) Q E s := SeqAt.RcAt.none_tuple ⟨_, (N _ hm).1, rfl, n, rfl⟩ hu prog w E Q h
section
local macro_rules | `(tactic| walk_at "compareOp Eq none ref") => `(tactic| (k_here; k_dflt (refine' nt_eq ?N ?t ?u ?_; (case N => k_asm); (case t => kcf_m); (case u => first | omega | (simp only [units_deeper, units_in1, Around.mark_units]; (try dsimp only [ktrTop]); omega)))))
local macro_rules | `(tactic| k_mem) => `(tactic| kcf_m)
theorem like_nt_c (w : World) (news : Led) (T : Addr) (vs : List Value) (n : Nat) (hm : (T, ({ cls := .type "tuple", data := .seq vs.toArray n } : Obj)) ∈ news) : Spec w 185 [.none, .ref T] 2 news (fun v nx => nx = news ∧ v = .bool false) := by
  intro mean mg mb dp un gd cn cs a ccd cl0 outer A₀ base h₀ L m s Q E B F X N T hk hd hu ret
  refine wpAny_call ?_
  k_dflt walk_at "mine enterC"
  k_steps
  exact ret _ _ _ _ ⟨rfl, rfl⟩ (by assumption) (cb_drop (by assumption) (by kcf_all))
end
local macro_rules | `(tactic| walk_at "mine pad68") => `(tactic| skip)
local macro_rules | `(tactic| walk_at "mine pad69") => `(tactic| skip)
local macro_rules | `(tactic| walk_at "mine pad70") => `(tactic| skip)
section
local macro_rules | `(tactic| k_mem) => `(tactic| kcf_m)
local macro_rules | `(tactic| walk_at "CompSrc") => `(tactic| (refine hold ?_))
local macro_rules | `(tactic| walk_at "CompEnd") => `(tactic| (refine hold ?_))
local macro_rules | `(tactic| walk_at "call ref cons nil") => `(tactic| (k_here; (with_reducible show wpAny _ _ (call (Value.ref 185) _ _) _ _ _); k_dflt (refine' Spec.use ?B ?F ?X ?N ?T ?K (like_int_c _ _ _ _ _ _) ?d ?u ?_; (case B => k_asm); (case F => k_asm); (case X => k_asm); (case N => k_asm); (case T => k_asm); (case K => first | exact rfl | assumption); (case d => ktr_room); (case u => ktr_units); k_whole); (intro v' nx' h' tk' O' F' N'; (obtain ⟨e1, e2⟩ := O'); subst nx'; subst e2); ((try k_sweep); (try dsimp only); (try k_fold))))
theorem like_tt_c (w : World) (news : Led) (T1 T2 : Addr) (a b : Int) (u1 u2 u3 u4 : Tok) (n1 n2 : Nat) (h1 : (T1, ({ cls := .type "tuple", data := .seq [Value.int a u1, Value.int 1 u2].toArray n1 } : Obj)) ∈ news) (h2 : (T2, ({ cls := .type "tuple", data := .seq [Value.int b u3, Value.int 1 u4].toArray n2 } : Obj)) ∈ news) (hab : a ≠ b) :
    Spec w 185 [.ref T1, .ref T2] 3 news (fun v nx => nx = news ∧ v = .bool false) := by
  intro mean mg mb dp un gd cn cs ad ccd cl0 outer A₀ base h₀ L m s Q E B F X N T hk hd hu ret
  refine wpAny_call ?_
  k_dflt walk_at "mine enterC"
  k_steps
  unfold Hold
  k_dflt (refine LCg.CompSrc.range (n := 2) (by rfl) (by k_asm) (by k_asm) (by assumption) (by decide) (by decide) (by rw [PySem.sizeLine_eq]; omega) ?_)
  intro g
  refine LCg.CompRest.succ ?_
  intro v I oI C oC D m₂ h tk E' hv hC hx F1 N1 off ne
  obtain ⟨t, rfl⟩ := (hv : ∃ t, v = Value.int 0 t)
  k_steps
  unfold Hold
  rename News _ _ _ _ => nN
  refine LCg.CompEnd.intro (by assumption) nN _ (fun _ h => h) off True.intro ?_
  rw [decide_eq_false hab]
  clear nN
  refine LCg.CompRest.succ ?_
  intro v I oI C oC D m₂ h tk E' hv hC hx F1 N1 off ne
  obtain ⟨t, rfl⟩ := (hv : ∃ t, v = Value.int 1 t)
  k_steps
  unfold Hold
  rename News _ _ _ _ => nN
  refine LCg.CompEnd.intro (by assumption) nN _ (fun _ h => h) off True.intro ?_
  rw [decide_eq_true rfl]
  clear nN
  refine LCg.CompRest.zero ?_
  k_steps
  exact ret _ _ _ _ ⟨rfl, rfl⟩ (by assumption) (cb_drop (by assumption) (by kcf_all))
end
local macro_rules | `(tactic| walk_at "mine pad71") => `(tactic| skip)
local macro_rules | `(tactic| walk_at "mine pad72") => `(tactic| skip)
local macro_rules | `(tactic| walk_at "mine pad73") => `(tactic| skip)
local macro_rules | `(tactic| walk_at "mine pad74") => `(tactic| skip)
local macro_rules | `(tactic| walk_at "mine pad75") => `(tactic| skip)
theorem unit_m2_put : True := by
  w_top off
  trivial
/-! ## RangeMap.put -/
inductive Unlike (news : Led) : Value → Value → Prop
  | ns (x : Str) (t : Tok) : Unlike news .none (.str x t)
  | nt {T : Addr} {vs : List Value} {n : Nat} : (T, ({ cls := .type "tuple", data := .seq vs.toArray n } : Obj)) ∈ news → Unlike news .none (.ref T)
  | tt {T1 T2 : Addr} {a b : Int} {u1 u2 u3 u4 : Tok} {n1 n2 : Nat} : (T1, ({ cls := .type "tuple", data := .seq [Value.int a u1, Value.int 1 u2].toArray n1 } : Obj)) ∈ news → (T2, ({ cls := .type "tuple", data := .seq [Value.int b u3, Value.int 1 u4].toArray n2 } : Obj)) ∈ news → a ≠ b → Unlike news (.ref T1) (.ref T2)
theorem Unlike.mono {news news' : Led} {u v : Value} (h : Unlike news u v) (s : ∀ p ∈ news, p ∈ news') : Unlike news' u v := by
  cases h with
  | ns x t => exact .ns x t
  | nt h => exact .nt (s _ h)
  | tt h k e => exact .tt (s _ h) (s _ k) e
theorem Spec.rank {w : World} {f : Addr} {vs : List Value} {r r' : Nat} {news : Led} {Out : Value → Led → Prop} (S : Spec w f vs r news Out) (h : r ≤ r') : Spec w f vs r' news Out :=
  fun mean mg mb dp un gd cn cs a ccd cl outer A₀ base h₀ L m s Q E B F X N T hk hd hu ret =>
    S mean mg mb dp un gd cn cs a ccd cl outer A₀ base h₀ L m s Q E B F X N T hk (by omega) (by omega) ret
theorem like_c (w : World) (news : Led) (u v : Value) (h : Unlike news u v) : Spec w 185 [u, v] 3 news (fun v nx => nx = news ∧ v = .bool false) := by
  cases h with
  | ns x t => exact (like_ns_c w news x t).rank (by omega)
  | nt h => exact (like_nt_c w news _ _ _ h).rank (by omega)
  | tt h k e => exact like_tt_c w news _ _ _ _ _ _ _ _ _ _ h k e
theorem place_k (w : World) (news : Led) (l : Addr) (ns : List Int) (x : Int) (tx : Tok) (k : Nat) (hl : TL news l ns) (hn : ns.length < 1000) (hp : ns.Pairwise (· < ·)) (hk : cntLE ns x = k) :
    Spec w 61 [.ref l, .int x tx] 1 news (fun v nx => nx = news ∧ ∃ t, v = .int ((k : Int) - 1) t) := by
  subst hk; exact place_c w news l ns x tx hl hn hp
theorem pick_from (vs : Array Value) {x : Int} (h : 0 ≤ x) : slicePick vs (some x) none none = (vs.toList.drop x.toNat).toArray := by
  have e : sliceBounds (some x) none none vs.size = (((min x.toNat vs.size : Nat) : Int), ((vs.size : Nat) : Int), 1) := by
    simp only [sliceBounds, Option.getD_none, show (1 : Int) > 0 by decide, if_true, if_neg (show ¬ (x < 0) by omega)]
    congr 1
    omega
  rw [kmk_pick_nat _ e]
  congr 1
  rw [← Array.length_toList, kmk_drop_min, List.take_of_length_le (by rw [List.length_drop]; omega)]
theorem pick_upto (vs : Array Value) {y : Int} (h : 0 ≤ y) : slicePick vs none (some y) none = (vs.toList.take y.toNat).toArray := by
  have e : sliceBounds none (some y) none vs.size = (((0 : Nat) : Int), ((min y.toNat vs.size : Nat) : Int), 1) := by
    simp only [sliceBounds, Option.getD_none, show (1 : Int) > 0 by decide, if_true, if_neg (show ¬ (y < 0) by omega)]
    congr 1
    congr 1
    omega
  rw [kmk_pick_nat _ e]
  congr 1
  rw [List.drop_zero, Nat.sub_zero, ← Array.length_toList, kmk_take_min]
section
variable {prog : Program} {w : World} {A : Around} {E : Value → Shared → Prop} {s : Shared} {h₀ : Heap} {L l a b : Addr} {cur : Led} {m : Str → Option Value} {its its2 : Array Value} {n n2 : Nat}
theorem vl_from {value slice : PySem.Expr} {vl : Value} {x : Int} {k : Nat} {Q : Value → Shared → Prop} (F : Fr h₀ L s.heap m) (N : News h₀ L s.heap cur) (hm : (l, listOf its n) ∈ cur) (pl : IsPart vl (some x)) (pu : IsPart .none none) (hk : x = (k : Int)) (hz : its.size < 10000)
    (h : ∀ D h', Fr h₀ L h' m → News h₀ L h' ((D, listOf (its.toList.drop k).toArray 0) :: cur) → (∀ p ∈ cur, p.1 < D) → Q (.ref D) { s with heap := h' })
    (hs : subscripted slice false (.ref l) (.ref s.heap.objs.size) = operate [.ref s.heap.objs.size, .ref l] (getItem (.ref l) (.ref s.heap.objs.size))) (ht : ∀ r, letTemporaryGo value (.ref l) r = pure ()) :
    wpAny (model prog w) A (subscriptTail value slice (.ref l) (.ref s.heap.objs.size)) Q E { s with heap := s.heap.push { cls := .type "slice", data := .fields #[vl, .none, .none] } } :=
  kmk_slice F N ⟨_, (N _ hm).1, rfl, n, rfl⟩ pl pu (fun D h' F' N' lt => h D h' F' (by rw [pick_from its (by omega), hk, Int.toNat_natCast] at N'; exact N') lt) hs ht (by rw [sizeLine_eq]; omega)
theorem vl_upto {value slice : PySem.Expr} {vu : Value} {y : Int} {k : Nat} {Q : Value → Shared → Prop} (F : Fr h₀ L s.heap m) (N : News h₀ L s.heap cur) (hm : (l, listOf its n) ∈ cur) (pl : IsPart .none none) (pu : IsPart vu (some y)) (hk : y = (k : Int)) (hz : its.size < 10000)
    (h : ∀ D h', Fr h₀ L h' m → News h₀ L h' ((D, listOf (its.toList.take k).toArray 0) :: cur) → (∀ p ∈ cur, p.1 < D) → Q (.ref D) { s with heap := h' })
    (hs : subscripted slice false (.ref l) (.ref s.heap.objs.size) = operate [.ref s.heap.objs.size, .ref l] (getItem (.ref l) (.ref s.heap.objs.size))) (ht : ∀ r, letTemporaryGo value (.ref l) r = pure ()) :
    wpAny (model prog w) A (subscriptTail value slice (.ref l) (.ref s.heap.objs.size)) Q E { s with heap := s.heap.push { cls := .type "slice", data := .fields #[.none, vu, .none] } } :=
  kmk_slice F N ⟨_, (N _ hm).1, rfl, n, rfl⟩ pl pu (fun D h' F' N' lt => h D h' F' (by rw [pick_upto its (by omega), hk, Int.toNat_natCast] at N'; exact N') lt) hs ht (by rw [sizeLine_eq]; omega)
theorem vl_add {Q : Value → Shared → Prop} (F : Fr h₀ L s.heap m) (N : News h₀ L s.heap cur) (ha : (a, listOf its n) ∈ cur) (hb : (b, listOf its2 n2) ∈ cur) (hz : its.size + its2.size < 10000)
    (h : ∀ D h', Fr h₀ L h' m → News h₀ L h' ((D, listOf (its.toList ++ its2.toList).toArray 0) :: cur) → (∀ p ∈ cur, p.1 < D) → Q (.ref D) { s with heap := h' }) :
    wpAny (model prog w) A (binaryOp .Add (.ref a) (.ref b)) Q E s :=
  add_arrays F N ⟨_, (N _ ha).1, rfl, n, rfl⟩ ⟨_, (N _ hb).1, rfl, n2, rfl⟩ (fun h' F' N' => h _ h' F' N' fun p hp => Heap.lt_size (N p hp).1) (by rw [sizeLine_eq]; omega)
theorem pv_item {value slice : PySem.Expr} {L9 : Led} {us : List Value} {ds : List Dat} {d : Dat} {j : Nat} {k : Int} {u : Tok} {Q : Value → Shared → Prop} (N : News h₀ L s.heap cur) (hm : (l, listOf us.toArray n) ∈ cur) (hd : DatAll L9 us ds) (hk : k = (j : Int)) (hj : ds[j]? = some d) (hz : ds.length < 10000)
    (h : ∀ v, DatIn L9 v d → Q v s)
    (hs : subscripted slice false (.ref l) (.int k u) = operate [.ref l, .int k u] (getItem (.ref l) (.int k u)) := by with_unfolding_all rfl) :
    wpAny (model prog w) A (subscriptTail value slice (.ref l) (.int k u)) Q E s := by
  have hlt : j < ds.length := (List.getElem?_eq_some_iff.mp hj).1
  refine kd_item N hm hd (by omega) (by omega) (by omega) (fun v d' hd' _ hv => ?_) hs
  rw [hk, Int.toNat_natCast, hj] at hd'
  exact h v (Option.some.inj hd' ▸ hv)
theorem mx_fst {x y : Int} {t u : Tok} {Q : Value → Shared → Prop} (hh : A.handled = none) (F : Fr h₀ L s.heap m) (N : News h₀ L s.heap cur) (e : y ≤ x)
    (h : ∀ h' tk, Fr h₀ L h' m → News h₀ L h' cur → Q (.int x t) { s with heap := h', toks := tk }) : wpAny (model prog w) A (call (.builtin "max") [.int x t, .int y u]) Q E s :=
  max_two_N hh F N fun h' tk F' N' => by rw [if_neg (by omega), if_neg (by omega)]; exact h h' tk F' N'
theorem mn_fst {x y : Int} {t u : Tok} {Q : Value → Shared → Prop} (hh : A.handled = none) (F : Fr h₀ L s.heap m) (N : News h₀ L s.heap cur) (e : x ≤ y)
    (h : ∀ h' tk, Fr h₀ L h' m → News h₀ L h' cur → Q (.int x t) { s with heap := h', toks := tk }) : wpAny (model prog w) A (call (.builtin "min") [.int x t, .int y u]) Q E s :=
  min_two_N hh F N fun h' tk F' N' => by rw [if_neg (by omega), if_neg (by omega)]; exact h h' tk F' N'
end
theorem pick13 {α : Type} {a b c d e f g h i j k l m : α} {r : List α} : ∀ p ∈ m :: a :: e :: r, p ∈ a :: b :: c :: d :: e :: f :: g :: h :: i :: j :: k :: l :: m :: r := by
  intro p hp; simp only [List.mem_cons] at hp ⊢; rcases hp with h | h | h | h <;> simp [h]
theorem da_take {news : Led} (k : Nat) : ∀ {us : List Value} {ds : List Dat}, DatAll news us ds → DatAll news (us.take k) (ds.take k) := by
  induction k with
  | zero => intro us ds _; rw [List.take_zero, List.take_zero]; exact .nil
  | succ k ih =>
    intro us ds h
    cases h with
    | nil => exact .nil
    | cons a r => exact .cons a (ih r)
theorem da_drop {news : Led} (k : Nat) : ∀ {us : List Value} {ds : List Dat}, DatAll news us ds → DatAll news (us.drop k) (ds.drop k) := by
  induction k with
  | zero => intro us ds h; exact h
  | succ k ih =>
    intro us ds h
    cases h with
    | nil => exact .nil
    | cons a r => exact ih r
theorem hiE (k : Nat) : (k : Int) - 1 + 1 = (k : Int) := by omega
section
local macro_rules | `(tactic| k_all) => `(tactic| assumption)
local macro_rules | `(tactic| k_mem) => `(tactic| kcf_m)
local macro_rules | `(tactic| walk_at "call builtin:max") => `(tactic| (k_here; k_dflt (refine' mx_fst ?h ?F ?N ?e ?_; (case h => with_unfolding_all rfl); (case F => k_asm); (case N => k_asm); (case e => omega)); intro h' tk' F' N'))
local macro_rules | `(tactic| walk_at "call builtin:min") => `(tactic| (k_here; k_dflt (refine' mn_fst ?h ?F ?N ?e ?_; (case h => with_unfolding_all rfl); (case F => k_asm); (case N => k_asm); (case e => omega)); intro h' tk' F' N'))
local macro_rules | `(tactic| walk_at "call ref cons nil") => `(tactic| (k_here; (with_reducible show wpAny _ _ (call (Value.ref 61) _ _) _ _ _); k_dflt (refine' Spec.use ?B ?F ?X ?N ?T ?K (place_k _ _ _ _ _ _ _ ?h1 ?h2 ?h3 ?h4) ?d ?u ?_; (case B => k_asm); (case F => k_asm); (case X => k_asm); (case N => k_asm); (case T => k_asm); (case K => first | exact rfl | assumption); (case h1 => ktr_rel); (case h2 => omega); (case h3 => assumption); (case h4 => assumption); (case d => ktr_room); (case u => ktr_units); k_whole); (intro v' nx' h' tk' O' F' N'; (obtain ⟨e1, t', e2⟩ := O'); subst nx'; subst e2); (try k_sweep); (try dsimp only); (try k_fold)))
local macro_rules | `(tactic| walk_at "call ref cons nil") => `(tactic| (k_here; (with_reducible show wpAny _ _ (call (Value.ref 185) _ _) _ _ _); k_dflt (refine' Spec.use ?B ?F ?X ?N ?T ?K (like_c _ _ _ _ ?h1) ?d ?u ?_; (case B => k_asm); (case F => k_asm); (case X => k_asm); (case N => k_asm); (case T => k_asm); (case K => first | exact rfl | assumption); (case h1 => exact Unlike.mono (by assumption) (by intro p hp; kcf_m)); (case d => ktr_room); (case u => ktr_units); k_whole); (intro v' nx' h' tk' O' F' N'; (obtain ⟨e1, e2⟩ := O'); subst nx'; subst e2); (try k_sweep); (try dsimp only); (try k_fold)))
local macro_rules | `(tactic| walk_at "subscriptTail Name BinOp ref int") => `(tactic| (k_here; (first | (k_dflt (refine' pv_item ?N ?t ?D ?k ?j ?z ?_ ?s; (case N => k_asm); (case t => k_mem); (case D => assumption); (case j => exact (by assumption : _ = some Dat.none)); (case k => omega); (case z => omega); (case s => with_unfolding_all rfl); k_whole); intro v' hD'; cases hD') | (k_dflt (refine' pv_item ?N ?t ?D ?k ?j ?z ?_ ?s; (case N => k_asm); (case t => k_mem); (case D => assumption); (case j => assumption); (case k => omega); (case z => omega); (case s => with_unfolding_all rfl); k_whole); intro v' hD'; rename (∀ u, DatIn _ u _ → Unlike _ u _) => hun9; have hU' := hun9 _ hD'))))
local macro_rules | `(tactic| walk_at "subscriptTail Attribute Name BinOp ref int") => `(tactic| (k_here; (first | (k_dflt (refine' pv_item ?N ?t ?D ?k ?j ?z ?_ ?s; (case N => k_asm); (case t => k_mem); (case D => assumption); (case j => exact (by assumption : _ = some Dat.none)); (case k => omega); (case z => omega); (case s => with_unfolding_all rfl); k_whole); intro v' hD'; cases hD') | (k_dflt (refine' pv_item ?N ?t ?D ?k ?j ?z ?_ ?s; (case N => k_asm); (case t => k_mem); (case D => assumption); (case j => assumption); (case k => omega); (case z => omega); (case s => with_unfolding_all rfl); k_whole); intro v' hD'; rename (∀ u, DatIn _ u _ → Unlike _ u _) => hun9; have hU' := hun9 _ hD'))))
local macro_rules | `(tactic| walk_at "subscriptTail Attribute Name Slice ref ref") => `(tactic| (k_here; (with_reducible show wpAny _ _ (subscriptTail _ (PySem.Expr.Slice (some _) none none _) _ _) _ _ _); k_dflt (refine' vl_from ?F ?N ?t ?p ?q ?k ?z ?_ ?s ?y; (case F => k_asm); (case N => k_asm); (case t => k_mem); (case p => kmk_part); (case q => kmk_part); (case k => exact hiE _); (case z => (simp only [List.size_toArray]; omega)); (case s => with_unfolding_all rfl); (case y => kmk_pure)); intro D' h' F' N' l1; (try k_lt l1); (try k_sweep)))
local macro_rules | `(tactic| walk_at "subscriptTail Name Slice ref ref") => `(tactic| (k_here; (with_reducible show wpAny _ _ (subscriptTail _ (PySem.Expr.Slice (some _) none none _) _ _) _ _ _); k_dflt (refine' vl_from ?F ?N ?t ?p ?q ?k ?z ?_ ?s ?y; (case F => k_asm); (case N => k_asm); (case t => k_mem); (case p => kmk_part); (case q => kmk_part); (case k => exact hiE _); (case z => (simp only [List.size_toArray]; omega)); (case s => with_unfolding_all rfl); (case y => kmk_pure)); intro D' h' F' N' l1; (try k_lt l1); (try k_sweep)))
local macro_rules | `(tactic| walk_at "subscriptTail Attribute Name Slice ref ref") => `(tactic| (k_here; (with_reducible show wpAny _ _ (subscriptTail _ (PySem.Expr.Slice none (some _) none _) _ _) _ _ _); k_dflt (refine' vl_upto ?F ?N ?t ?p ?q ?k ?z ?_ ?s ?y; (case F => k_asm); (case N => k_asm); (case t => k_mem); (case p => kmk_part); (case q => kmk_part); (case k => exact hiE _); (case z => (simp only [List.size_toArray]; omega)); (case s => with_unfolding_all rfl); (case y => kmk_pure)); intro D' h' F' N' l1; (try k_lt l1); (try k_sweep)))
local macro_rules | `(tactic| walk_at "subscriptTail Name Slice ref ref") => `(tactic| (k_here; (with_reducible show wpAny _ _ (subscriptTail _ (PySem.Expr.Slice none (some _) none _) _ _) _ _ _); k_dflt (refine' vl_upto ?F ?N ?t ?p ?q ?k ?z ?_ ?s ?y; (case F => k_asm); (case N => k_asm); (case t => k_mem); (case p => kmk_part); (case q => kmk_part); (case k => exact hiE _); (case z => (simp only [List.size_toArray]; omega)); (case s => with_unfolding_all rfl); (case y => kmk_pure)); intro D' h' F' N' l1; (try k_lt l1); (try k_sweep)))
local macro_rules | `(tactic| walk_at "binaryOp Add ref ref") => `(tactic| (k_here; k_dflt (refine' vl_add ?F ?N ?a ?b ?z ?_; (case F => k_asm); (case N => k_asm); (case a => k_mem); (case b => k_mem); (case z => (simp only [List.push_toArray, List.cons_append, List.nil_append, List.size_toArray, Array.length_toList, List.length_append, List.length_take, List.length_drop, Array.size_push, List.length_cons, List.length_nil]; omega))); intro D' h' F' N' l1; (try k_lt l1); (try k_sweep)))
theorem put_starts {hs h1 h2 h3 : Int} {ky v v0 a b : Value} {t1 t2 t3 : Tok} {n : Nat} : (putL (Str.ofString "starts") hs ky v [⟨h1, .str (Str.ofString "default") t1, v0⟩, ⟨h2, .str (Str.ofString "starts") t2, a⟩, ⟨h3, .str (Str.ofString "values") t3, b⟩], putN (Str.ofString "starts") [⟨h1, .str (Str.ofString "default") t1, v0⟩, ⟨h2, .str (Str.ofString "starts") t2, a⟩, ⟨h3, .str (Str.ofString "values") t3, b⟩] n) = ([⟨h1, .str (Str.ofString "default") t1, v0⟩, ⟨h2, .str (Str.ofString "starts") t2, v⟩, ⟨h3, .str (Str.ofString "values") t3, b⟩], n) := by with_unfolding_all rfl
theorem put_values {hs h1 h2 h3 : Int} {ky v v0 a b : Value} {t1 t2 t3 : Tok} {n : Nat} : (putL (Str.ofString "values") hs ky v [⟨h1, .str (Str.ofString "default") t1, v0⟩, ⟨h2, .str (Str.ofString "starts") t2, a⟩, ⟨h3, .str (Str.ofString "values") t3, b⟩], putN (Str.ofString "values") [⟨h1, .str (Str.ofString "default") t1, v0⟩, ⟨h2, .str (Str.ofString "starts") t2, a⟩, ⟨h3, .str (Str.ofString "values") t3, b⟩] n) = ([⟨h1, .str (Str.ofString "default") t1, v0⟩, ⟨h2, .str (Str.ofString "starts") t2, a⟩, ⟨h3, .str (Str.ofString "values") t3, v⟩], n) := by with_unfolding_all rfl
local macro_rules | `(tactic| walk_at "setAttr ref") => `(tactic| (k_here; k_dflt (refine' set_dict ?k1 ?k2 ?k3 ?k4 ?k5 ?k6 ?k7 ?k8 ?k9 ?k10 ?k11 ?k12 ?k13 ?_; (case k1 => k_asm); (case k2 => k_asm); (case k3 => k_asm); (case k4 => k_inst); (case k5 => exact rfl); (case k6 => k_is); (case k7 => k_is); (case k8 => k_is); (case k9 => k_is); (case k10 => k_get); (case k11 => first | exact put_starts | exact put_values); (case k12 => k_upd); (case k13 => exact Nat.le_of_ble_eq_true rfl); k_whole; intro h' F' N'; (try k_sweep))))
abbrev rmDict (h1 h2 h3 : Int) (t1 t2 t3 : Tok) (v0 : Value) (ls lv : Addr) (n : Nat) : Obj := dictOf [⟨h1, .str "default" t1, v0⟩, ⟨h2, .str "starts" t2, .ref ls⟩, ⟨h3, .str "values" t3, .ref lv⟩] n
def RMS (R : Led) (r d : Addr) (D : Obj) (st : List Int) (vs : List Dat) : Prop :=
  ∃ (h1 h2 h3 : Int) (t1 t2 t3 : Tok) (v0 : Value) (ls lv : Addr) (n kk ks : Nat) (ss us : List Value), D = rmDict h1 h2 h3 t1 t2 t3 v0 ls lv n ∧ (r, instObj 230 d) ∈ R ∧ (ls, listOf ss.toArray ks) ∈ R ∧ IntsAre ss st ∧ (lv, listOf us.toArray kk) ∈ R ∧ DatAll R us vs
theorem RMS.mono {R R' : Led} {r d : Addr} {D : Obj} {st : List Int} {vs : List Dat} (h : RMS R r d D st vs) (s : ∀ p ∈ R, p ∈ R') : RMS R' r d D st vs := by
  obtain ⟨h1, h2, h3, t1, t2, t3, v0, ls, lv, n, kk, ks, ss, us, e, a, b, c, f, g⟩ := h
  exact ⟨h1, h2, h3, t1, t2, t3, v0, ls, lv, n, kk, ks, ss, us, e, s _ a, s _ b, c, s _ f, g.mono s⟩
inductive UnlikeD : Dat → Dat → Prop
  | ns (x : Str) : UnlikeD .none (.str x)
  | nt (ds : List Dat) : UnlikeD .none (.tuple ds)
  | tt {a b : Int} : a ≠ b → UnlikeD (.tuple [.int a, .int 1]) (.tuple [.int b, .int 1])
theorem UnlikeD.at {news : Led} {u v : Value} {d e : Dat} (h : UnlikeD d e) (hu : DatIn news u d) (hv : DatIn news v e) : Unlike news u v := by
  cases h with
  | ns x => cases hu; cases hv; exact .ns _ _
  | nt ds =>
    cases hu
    cases hv with
    | tuple hm _ => exact .nt hm
  | tt hne =>
    cases hu with
    | tuple hm ha =>
      cases hv with
      | tuple hm2 ha2 =>
        cases ha with
        | cons a1 ar => cases ar with
          | cons a2 an =>
            cases an
            cases ha2 with
            | cons b1 br => cases br with
              | cons b2 bn =>
                cases bn
                cases a1; cases a2; cases b1; cases b2
                exact .tt hm hm2 hne
/-- what a put must find -/
structure PutC (st : List Int) (vs : List Dat) (first last : Int) (dv : Dat) (low high : Nat) : Prop where
  elen : st.length = vs.length
  elt : st.length < 100
  asc : st.Pairwise (· < ·)
  f0 : 0 ≤ first
  fl : first ≤ last
  la : last < 100000
  elow : cntLE st (first - 1) = low
  ehigh : cntLE st (last + 1) = high
  low0 : 0 < low
  high0 : 0 < high
  highle : high ≤ st.length
  behind : vs[high - 1]? = some .none
  ahead : ∃ d1, vs[low - 1]? = some d1 ∧ UnlikeD d1 dv
  un : UnlikeD .none dv
theorem rm_put_c (w : World) (R ex : Led) (x d : Addr) (D : Obj) (st : List Int) (vs : List Dat) (first last : Int) (tf tl : Tok) (v : Value) (dv : Dat) (low high : Nat)
    (hR : RMS R x d D st vs) (hdv0 : DatIn R v dv) (hd : ∀ p ∈ R ++ ex, p.1 ≠ d) (C : PutC st vs first last dv low high) :
    Spec w 213 [.ref x, .int first tf, .int last tl, v] 5 ((d, D) :: (R ++ ex)) (fun r nx => r = .none ∧ ∃ (D' : Obj) (own : Led), nx = (d, D') :: (own ++ (R ++ ex)) ∧ RMS (own ++ R) x d D' (st.take low ++ [first, last + 1] ++ st.drop high) (vs.take low ++ [dv, .none] ++ vs.drop high) ∧ (∀ p ∈ own, p.1 ≠ d) ∧ (∀ q ∈ own, ∀ p ∈ R ++ ex, p.1 ≠ q.1)) := by
  obtain ⟨h1, h2, h3, t1, t2, t3, v0, ls, lv, n, kk, ks, ss, us, rfl, hx0, hs0, hsi, hv0, hu0⟩ := hR
  obtain ⟨hlen, hlt, hp, hf, hfl, hla, hlow, hhigh, hl0, hh0, hh, hb, ⟨d1, hb1, hun1⟩, hun2⟩ := C
  have hx := List.mem_append_left ex hx0
  have hs := List.mem_append_left ex hs0
  have hv := List.mem_append_left ex hv0
  have hu := hu0.mono (fun p hp => List.mem_append_left ex hp)
  have hdv := hdv0.mono (fun p hp => List.mem_append_left ex hp)
  have hun0 : Unlike (R ++ ex) .none v := hun2.at .none hdv
  have hun : ∀ u, DatIn (R ++ ex) u d1 → Unlike (R ++ ex) u v := fun u h => hun1.at h hdv
  generalize hrest : R ++ ex = rest at *
  intro mean mg mb dp un gd cn cs ad ccd cl0 outer A₀ base h₀ L m s Q E B F X N T hk hdp0 hun9 ret
  have hst : TL rest ls st := ⟨ss, ks, hs, hsi⟩
  have hsl := hsi.length
  have hul := hu.length
  refine wpAny_call ?_
  k_dflt ktr_enter
  rename Fr _ _ _ _ => F0
  have F1 : Fr _ _ _ (fun y => List.lookup y [(Str.ofString "value", v), (Str.ofString "last", Value.int last tl), (Str.ofString "first", Value.int first tf), (Str.ofString "self", Value.ref x)]) := F0
  clear F0
  k_steps
  rename News _ _ _ (_ :: _ :: _ :: _ :: _ :: _ :: _ :: _ :: _ :: _ :: _ :: _ :: _ :: rest) => nN
  rename _ ∧ _ ∧ _ ∧ _ ∧ _ ∧ _ ∧ _ ∧ _ ∧ AllLt _ rest => l8
  rename _ ∧ _ ∧ _ ∧ _ ∧ _ ∧ _ ∧ _ ∧ _ ∧ _ ∧ _ ∧ _ ∧ _ ∧ AllLt _ rest => l12
  refine ret _ _ _ _ ?o (by assumption) (cb_drop nN pick13)
  refine ⟨rfl, _, [_, _], rfl, ⟨_, _, _, _, _, _, _, _, _, _, 0, 0, _, _, rfl, .tail _ (.tail _ hx0), .tail _ (.head _), ?_, .head _, ?_⟩, ?_, ?_⟩
  · exact ((hsi.take low).append (.cons first tf (.cons (last + 1) _ .nil))).append (hsi.drop high)
  · exact (((da_take low hu0).append (.cons hdv0 (.cons .none .nil))).append (da_drop high hu0)).mono (fun p hp => .tail _ (.tail _ hp))
  · intro p hp
    rcases List.mem_cons.mp hp with rfl | hp
    · exact Nat.ne_of_gt (by omega)
    rcases List.mem_cons.mp hp with rfl | hp
    · exact Nat.ne_of_gt (by omega)
    cases hp
  · intro q hq p hp
    rcases List.mem_cons.mp hq with rfl | hq
    · exact Nat.ne_of_lt (ktn_ltOf l12.2.2.2.2.2.2.2.2.2.2.2.2 p hp)
    rcases List.mem_cons.mp hq with rfl | hq
    · exact Nat.ne_of_lt (ktn_ltOf l8.2.2.2.2.2.2.2.2 p hp)
    cases hq
end
local macro_rules | `(tactic| walk_at "mine pad76") => `(tactic| skip)
local macro_rules | `(tactic| walk_at "mine pad77") => `(tactic| skip)
local macro_rules | `(tactic| walk_at "mine pad78") => `(tactic| skip)
local macro_rules | `(tactic| walk_at "mine pad79") => `(tactic| skip)
local macro_rules | `(tactic| walk_at "mine pad80") => `(tactic| skip)
local macro_rules | `(tactic| walk_at "mine pad81") => `(tactic| skip)
local macro_rules | `(tactic| walk_at "mine pad82") => `(tactic| skip)
local macro_rules | `(tactic| walk_at "mine pad83") => `(tactic| skip)
local macro_rules | `(tactic| walk_at "mine pad84") => `(tactic| skip)
local macro_rules | `(tactic| walk_at "mine pad85") => `(tactic| skip)
local macro_rules | `(tactic| walk_at "mine pad86") => `(tactic| skip)
local macro_rules | `(tactic| walk_at "mine pad87") => `(tactic| skip)
local macro_rules | `(tactic| walk_at "mine pad88") => `(tactic| skip)
local macro_rules | `(tactic| walk_at "mine pad89") => `(tactic| skip)
local macro_rules | `(tactic| walk_at "mine pad90") => `(tactic| skip)
theorem unit_m3_map : True := by
  w_top off
  trivial
/-! ## Data.map_of, Data.put -/
abbrev dataDict (h1 h2 h3 h4 : Int) (t1 t2 t3 t4 : Tok) (dd mp : Addr) (v3 v4 : Value) (n : Nat) : Obj := dictOf [⟨h1, .str "defaults" t1, .ref dd⟩, ⟨h2, .str "maps" t2, .ref mp⟩, ⟨h3, .str "properties" t3, v3⟩, ⟨h4, .str "words" t4, v4⟩] n
theorem perm5 {α : Type} {a b c d e : α} {r : List α} : ∀ p ∈ e :: d :: ([c, b, a] ++ r), p ∈ a :: b :: c :: d :: e :: r := by
  intro p hp; simp only [List.mem_cons, List.cons_append, List.nil_append] at hp ⊢; rcases hp with h | h | h | h | h | h <;> simp [h]
theorem va_some {kvs : List (Str × Value)} {k : Str} {v : Value} (h : valueAt kvs k = some v) : (valueAt kvs k).isSome = true := by rw [h]; rfl
theorem va_none {kvs : List (Str × Value)} {k : Str} (h : valueAt kvs k = none) : (valueAt kvs k).isSome = false := by rw [h]; rfl
theorem va_new {kvs : List (Str × Value)} {k : Str} {v : Value} (h : valueAt kvs k = none) : valueAt (stored kvs k v) k = some v := by
  rw [stored_absent h]; unfold valueAt at h ⊢
  rw [List.find?_append]
  rw [Option.map_eq_none_iff] at h
  rw [h]; simp
theorem kdg_getN {prog : Program} {w : World} {A : Around} {E : Value → Shared → Prop} {s : Shared} {h₀ : Heap} {L d : Addr} {news : Led} {o : Obj} {kvs : List (Str × Value)} {k : Str} {t : Tok} {Q : Value → Shared → Prop} (N : News h₀ L s.heap news) (hp : (d, o) ∈ news) (hd : o.IsDictOf (PySem.strKind prog w) kvs) (lo : (d == sysModules) = false) (hl : (valueAt kvs k).getD .none = .none) (h : Q .none { s with toks := s.toks + 1 }) :
    wpAny (model prog w) A (call (.builtin "dict.get") [.ref d, .str k t]) Q E s :=
  kdg_get1 (knd := PySem.strKind _ _) N hp hd lo (strKind_is _ _ _ _) _ rfl (by rw [hl]; exact h)
section
local macro_rules | `(tactic| k_all) => `(tactic| assumption)
local macro_rules | `(tactic| k_mem) => `(tactic| kcf_m)
local macro_rules | `(tactic| walk_at "compareOp NotIn str ref") => `(tactic| (k_here; k_dflt (first | refine kdg_notin (knd := PySem.strKind _ _) (by k_asm) (by k_mem) (by k_asm) (by k_asm) (strKind_is _ _ _ _) true (va_some (by assumption)) ?_ | refine kdg_notin (knd := PySem.strKind _ _) (by k_asm) (by k_mem) (by k_asm) (by k_asm) (strKind_is _ _ _ _) false (va_none (by assumption)) ?_)))
local macro_rules | `(tactic| walk_at "subscriptTail Attribute Name Name ref str") => `(tactic| (k_here; k_dflt (refine kda_item (knd := PySem.strKind _ _) (by k_asm) (by k_mem) (by k_asm) (strKind_is _ _ _ _) (by assumption) ?_); (try dsimp only)))
local macro_rules | `(tactic| walk_at "subscriptTail Name Name ref str") => `(tactic| (k_here; k_dflt (refine kda_item (knd := PySem.strKind _ _) (by k_asm) (by k_mem) (by k_asm) (strKind_is _ _ _ _) (by first | assumption | exact va_new (by assumption)) ?_); (try dsimp only)))
theorem map_of_old_c (w : World) (news : Led) (x dx dd mp r : Addr) (n : Nat) (h1 h2 h3 h4 : Int) (t1 t2 t3 t4 : Tok) (v3 v4 : Value) (om : Obj) (kvs : List (Str × Value)) (nm : Str) (tn : Tok)
    (hx : (x, instObj 279 dx) ∈ news) (hdx : (dx, dataDict h1 h2 h3 h4 t1 t2 t3 t4 dd mp v3 v4 n) ∈ news) (hmp : (mp, om) ∈ news) (lo : (mp == sysModules) = false) (hom : om.IsDictOf (PySem.strKind PP w) kvs) (hv : valueAt kvs nm = some (.ref r)) :
    Spec w 276 [.ref x, .str nm tn] 1 news (fun v nx => nx = news ∧ v = .ref r) := by
  intro mean mg mb dp un gd cn cs ad ccd cl0 outer A₀ base h₀ L m s Q E B F X N T hk hdp0 hun9 ret
  refine wpAny_call ?_
  k_dflt ktr_enter
  rename Fr _ _ _ _ => F0
  have F1 : Fr _ _ _ (fun y => List.lookup y [(Str.ofString "name", Value.str nm tn), (Str.ofString "self", Value.ref x)]) := F0
  clear F0
  k_steps
  exact ret _ _ _ _ ⟨rfl, rfl⟩ (by assumption) (by assumption)
end
local macro_rules | `(tactic| walk_at "mine pad91") => `(tactic| skip)
local macro_rules | `(tactic| walk_at "mine pad92") => `(tactic| skip)
local macro_rules | `(tactic| walk_at "mine pad93") => `(tactic| skip)
local macro_rules | `(tactic| walk_at "mine pad94") => `(tactic| skip)
local macro_rules | `(tactic| walk_at "mine pad95") => `(tactic| skip)
local macro_rules | `(tactic| walk_at "mine pad96") => `(tactic| skip)
section
local macro_rules | `(tactic| k_all) => `(tactic| assumption)
local macro_rules | `(tactic| k_mem) => `(tactic| kcf_m)
local macro_rules | `(tactic| walk_at "compareOp NotIn str ref") => `(tactic| (k_here; k_dflt (first | refine kdg_notin (knd := PySem.strKind _ _) (by k_asm) (by k_mem) (by k_asm) (by k_asm) (strKind_is _ _ _ _) true (va_some (by assumption)) ?_ | refine kdg_notin (knd := PySem.strKind _ _) (by k_asm) (by k_mem) (by k_asm) (by k_asm) (strKind_is _ _ _ _) false (va_none (by assumption)) ?_)))
local macro_rules | `(tactic| walk_at "getMethod ref") => `(tactic| (k_here; k_dflt (refine kdg_method (knd := PySem.strKind _ _) (by k_asm) (by k_mem) (by k_asm) ?_)))
local macro_rules | `(tactic| walk_at "call builtin:dict.get") => `(tactic| (k_here; k_dflt (refine kdg_getN (by k_asm) (by k_mem) (by k_asm) (by k_asm) (by assumption) ?_)))
local macro_rules | `(tactic| walk_at "setItem ref str") => `(tactic| (k_here; k_dflt (refine' kda_set (knd := PySem.strKind _ _) ?F ?N ?U ?d (strKind_is _ _ _ _) ?z ?_; (case F => k_asm); (case N => k_asm); (case U => k_updF); (case d => k_asm); (case z => rw [sizeLine_eq]; omega)); intro h' o' F' N' hd'; (try dsimp only at N')))
local macro_rules | `(tactic| walk_at "getItem ref str") => `(tactic| (k_here; k_dflt (refine' kdt_getItem (knd := PySem.strKind _ _) ?N ?p ?d (strKind_is _ _ _ _) ?l ?_; (case N => k_asm); (case p => k_mem); (case d => k_asm); (case l => exact va_new (by assumption)); k_whole)))
theorem map_of_new_c (w : World) (rest : Led) (x dx dd mp : Addr) (n : Nat) (h1 h2 h3 h4 : Int) (t1 t2 t3 t4 : Tok) (v3 v4 : Value) (om od : Obj) (kvs kd : List (Str × Value)) (nm : Str) (tn : Tok)
    (hx : (x, instObj 279 dx) ∈ rest) (hdx : (dx, dataDict h1 h2 h3 h4 t1 t2 t3 t4 dd mp v3 v4 n) ∈ rest) (hmp : ∀ p ∈ rest, p.1 ≠ mp) (lo : (mp == sysModules) = false) (hom : om.IsDictOf (PySem.strKind PP w) kvs) (hv : valueAt kvs nm = none) (hkl : kvs.length < 100)
    (hdd : (dd, od) ∈ rest) (lod : (dd == sysModules) = false) (hod : od.IsDictOf (PySem.strKind PP w) kd) (hvd : (valueAt kd nm).getD .none = .none) :
    Spec w 276 [.ref x, .str nm tn] 3 ((mp, om) :: rest) (fun v nx => ∃ r d ls lv om' h1 h2 h3 t1 t2 t3 t4, v = .ref r ∧ nx = (mp, om') :: (d, rmDict h1 h2 h3 t1 t2 t3 .none ls lv 3) :: ([(r, instObj 230 d), (ls, listOf #[Value.int 0 t4] 0), (lv, listOf #[Value.none] 0)] ++ rest) ∧ om'.IsDictOf (PySem.strKind PP w) (stored kvs nm (.ref r)) ∧
      ((∀ p ∈ (mp, om) :: rest, p.1 < r) ∧ (∀ p ∈ (mp, om) :: rest, p.1 < d) ∧ (∀ p ∈ (mp, om) :: rest, p.1 < ls) ∧ (∀ p ∈ (mp, om) :: rest, p.1 < lv)) ∧ d ≠ r ∧ d ≠ ls ∧ d ≠ lv) := by
  intro mean mg mb dp un gd cn cs ad ccd cl0 outer A₀ base h₀ L m s Q E B F X N T hk hdp0 hun9 ret
  refine wpAny_call ?_
  k_dflt ktr_enter
  rename Fr _ _ _ _ => F0
  have F1 : Fr _ _ _ (fun y => List.lookup y [(Str.ofString "name", Value.str nm tn), (Str.ofString "self", Value.ref x)]) := F0
  clear F0
  k_steps
  rename News _ _ _ (_ :: _ :: _ :: _ :: _ :: rest) => nN
  rename (_ < _) ∧ AllLt _ rest => l1
  rename (_ < _) ∧ (_ < _) ∧ (_ < _) ∧ AllLt _ rest => l3
  rename (_ < _) ∧ (_ < _) ∧ (_ < _) ∧ (_ < _) ∧ AllLt _ rest => l4
  have e1 := ktn_ltOf l1.2
  have e3 := ktn_ltOf l3.2.2.2
  have e4 := ktn_ltOf l4.2.2.2.2
  refine ret _ _ _ _ ?o (by assumption) (cb_drop nN perm5)
  refine ⟨_, _, _, _, _, _, _, _, _, _, _, _, rfl, rfl, by assumption, ⟨?_, ?_, ?_, ?_⟩, Nat.ne_of_lt (by omega), Nat.ne_of_lt (by omega), Nat.ne_of_lt (by omega)⟩
  · intro p hp; rcases List.mem_cons.mp hp with rfl | hp
    · show @LT.lt Nat _ mp _; omega
    · exact Nat.lt_trans (e1 p hp) (by omega)
  · intro p hp; rcases List.mem_cons.mp hp with rfl | hp
    · show @LT.lt Nat _ mp _; omega
    · exact e1 p hp
  · intro p hp; rcases List.mem_cons.mp hp with rfl | hp
    · show @LT.lt Nat _ mp _; omega
    · exact e3 p hp
  · intro p hp; rcases List.mem_cons.mp hp with rfl | hp
    · show @LT.lt Nat _ mp _; omega
    · exact e4 p hp
end
local macro_rules | `(tactic| walk_at "mine pad97") => `(tactic| skip)
local macro_rules | `(tactic| walk_at "mine pad98") => `(tactic| skip)
local macro_rules | `(tactic| walk_at "mine pad99") => `(tactic| skip)
local macro_rules | `(tactic| walk_at "mine pad100") => `(tactic| skip)
local macro_rules | `(tactic| walk_at "mine pad101") => `(tactic| skip)
local macro_rules | `(tactic| walk_at "mine pad102") => `(tactic| skip)
local macro_rules | `(tactic| walk_at "mine pad103") => `(tactic| skip)
local macro_rules | `(tactic| walk_at "mine pad104") => `(tactic| skip)
theorem unit_m4_dput : True := by
  w_top off
  trivial
/-! ## Data.put -/
def DS (w : World) (R : Led) (x mp : Addr) : Prop :=
  ∃ (dx dd : Addr) (n : Nat) (h1 h2 h3 h4 : Int) (t1 t2 t3 t4 : Tok) (v3 v4 : Value) (od : Obj) (kd : List (Str × Value)),
    (x, instObj 279 dx) ∈ R ∧ (dx, dataDict h1 h2 h3 h4 t1 t2 t3 t4 dd mp v3 v4 n) ∈ R ∧ (dd, od) ∈ R ∧ (dd == sysModules) = false ∧ od.IsDictOf (PySem.strKind PP w) kd ∧ (valueAt kd (Str.ofString "nt")).getD .none = .none ∧ (valueAt kd (Str.ofString "nv")).getD .none = .none
theorem DS.mono {w : World} {R R' : Led} {x mp : Addr} (h : DS w R x mp) (s : ∀ p ∈ R, p ∈ R') : DS w R' x mp := by
  obtain ⟨dx, dd, n, h1, h2, h3, h4, t1, t2, t3, t4, v3, v4, od, kd, a, b, c, e, f, g, i⟩ := h
  exact ⟨dx, dd, n, h1, h2, h3, h4, t1, t2, t3, t4, v3, v4, od, kd, s _ a, s _ b, s _ c, e, f, g, i⟩
theorem perm_new {mp d : Addr} {om D : Obj} {a b c : Addr × Obj} {R ex : Led} : ∀ p ∈ (d, D) :: (([a, b, c] ++ R) ++ (ex ++ [(mp, om)])), p ∈ (mp, om) :: (d, D) :: ([a, b, c] ++ (R ++ ex)) := by
  intro p hp; simp only [List.mem_cons, List.mem_append, List.cons_append, List.nil_append, List.not_mem_nil, or_false] at hp ⊢
  rcases hp with h | h | h | h | h | h | h <;> simp [h]
theorem perm_new2 {mp d : Addr} {om D : Obj} {a b c : Addr × Obj} {R ex own : Led} : ∀ p ∈ (mp, om) :: (d, D) :: ((own ++ [a, b, c]) ++ (R ++ ex)), p ∈ (d, D) :: (own ++ (([a, b, c] ++ R) ++ (ex ++ [(mp, om)]))) := by
  intro p hp; simp only [List.mem_cons, List.mem_append, List.cons_append, List.nil_append, List.not_mem_nil, or_false] at hp ⊢
  rcases hp with h | h | (h | h | h | h) | h | h <;> simp [h]
section
local macro_rules | `(tactic| k_all) => `(tactic| assumption)
local macro_rules | `(tactic| k_mem) => `(tactic| kcf_m)
section
local macro_rules | `(tactic| walk_at "call ref cons nil") => `(tactic| (k_here; (with_reducible show wpAny _ _ (call (Value.ref 276) _ _) _ _ _); k_dflt (refine' Spec.use ?B ?F ?X ?N ?T ?K (map_of_old_c _ _ _ _ _ _ _ _ _ _ _ _ _ _ _ _ _ _ _ _ _ _ ?x ?dx ?m ?l ?o ?v) ?d ?u ?_; (case B => k_asm); (case F => k_asm); (case X => k_asm); (case N => k_asm); (case T => k_asm); (case K => first | exact rfl | assumption); (case x => k_mem); (case dx => k_mem); (case m => k_mem); (case l => assumption); (case o => assumption); (case v => assumption); (case d => ktr_room); (case u => ktr_units); k_whole); (intro v' nx' h' tk' O' F' N'; (obtain ⟨e1, e2⟩ := O'); subst nx'; subst e2); (try k_sweep); (try dsimp only); (try k_fold)))
local macro_rules | `(tactic| walk_at "call ref cons nil") => `(tactic| (k_here; (with_reducible show wpAny _ _ (call (Value.ref 213) _ _) _ _ _); k_dflt (refine' Spec.use ?B ?F ?X ?N ?T ?K (rm_put_c _ _ _ _ _ _ _ _ _ _ _ _ _ _ _ _ ?hR ?hv ?hd ?C) ?d ?u ?_; (case B => k_asm); (case F => k_asm); (case X => k_asm); (case N => k_asm); (case T => k_asm); (case K => first | exact rfl | assumption); (case hR => assumption); (case hv => assumption); (case hd => assumption); (case C => assumption); (case d => ktr_room); (case u => ktr_units); k_whole); (intro v' nx' h' tk' O' F' N'; (obtain ⟨e1, O2'⟩ := O'); subst e1); (try k_sweep); (try dsimp only); (try k_fold)))
theorem data_put_old_c (w : World) (R ex : Led) (x mp r d : Addr) (om D : Obj) (kvs : List (Str × Value)) (nm : Str) (st : List Int) (vs : List Dat) (first last : Int) (tn tf tl : Tok) (v : Value) (dv : Dat) (low high : Nat)
    (hS : DS w R x mp) (hmp : (mp, om) ∈ R ++ ex) (lo : (mp == sysModules) = false) (hom : om.IsDictOf (PySem.strKind PP w) kvs) (hval : valueAt kvs nm = some (.ref r))
    (hR : RMS R r d D st vs) (hdv : DatIn R v dv) (hd : ∀ p ∈ R ++ ex, p.1 ≠ d) (C : PutC st vs first last dv low high) :
    Spec w 262 [.ref x, .str nm tn, .int first tf, .int last tl, v] 7 ((d, D) :: (R ++ ex)) (fun r' nx => r' = .none ∧ ∃ (D' : Obj) (own : Led), nx = (d, D') :: (own ++ (R ++ ex)) ∧ RMS (own ++ R) r d D' (st.take low ++ [first, last + 1] ++ st.drop high) (vs.take low ++ [dv, .none] ++ vs.drop high) ∧ (∀ p ∈ own, p.1 ≠ d) ∧ (∀ q ∈ own, ∀ p ∈ R ++ ex, p.1 ≠ q.1)) := by
  obtain ⟨dx, dd, n, h1, h2, h3, h4, t1, t2, t3, t4, v3, v4, od, kd, a1, a2, a3, a4, a5, a6, a7⟩ := hS
  have b1 := List.mem_append_left ex a1
  have b2 := List.mem_append_left ex a2
  have b3 := hmp
  have hR2 := hR
  obtain ⟨g1, g2, g3, q1, q2, q3, v0, ls, lv, n2, kk, ks, ss, us, e9, hr0, -⟩ := hR2
  subst e9
  have b4 := List.mem_append_left ex hr0
  intro mean mg mb dp un gd cn cs ad ccd cl0 outer A₀ base h₀ L m s Q E B F X N T hk hdp0 hun9 ret
  refine wpAny_call ?_
  k_dflt ktr_enter
  rename Fr _ _ _ _ => F0
  have F1 : Fr _ _ _ (fun y => List.lookup y [(Str.ofString "value", v), (Str.ofString "last", Value.int last tl), (Str.ofString "first", Value.int first tf), (Str.ofString "name", Value.str nm tn), (Str.ofString "self", Value.ref x)]) := F0
  clear F0
  k_steps
  rename ∃ _, _ => O2
  obtain ⟨D', own, e1, e2, e3, e4⟩ := O2
  exact ret _ _ _ _ ⟨rfl, D', own, e1, e2, e3, e4⟩ (by assumption) (by assumption)
end
local macro_rules | `(tactic| walk_at "mine pad105") => `(tactic| skip)
local macro_rules | `(tactic| walk_at "mine pad106") => `(tactic| skip)
local macro_rules | `(tactic| walk_at "mine pad107") => `(tactic| skip)
section
local macro_rules | `(tactic| walk_at "call ref cons nil") => `(tactic| (k_here; (first | (with_reducible show wpAny _ _ (call (Value.ref 276) _ _) _ _ _) | (with_reducible show wpAny _ _ (call (Value.ref 213) _ _) _ _ _)); refine hold ?_))
theorem data_put_new_c (w : World) (R ex : Led) (x mp : Addr) (om : Obj) (kvs : List (Str × Value)) (nm : Str) (first last : Int) (tn tf tl : Tok) (v : Value) (dv : Dat) (low high : Nat)
    (hS : DS w R x mp) (hmp : ∀ p ∈ R ++ ex, p.1 ≠ mp) (lo : (mp == sysModules) = false) (hom : om.IsDictOf (PySem.strKind PP w) kvs) (hval : valueAt kvs nm = none) (hnm : nm = Str.ofString "nt" ∨ nm = Str.ofString "nv") (hkl : kvs.length < 100)
    (hdv : DatIn R v dv) (C : PutC [0] [.none] first last dv low high) :
    Spec w 262 [.ref x, .str nm tn, .int first tf, .int last tl, v] 7 ((mp, om) :: (R ++ ex)) (fun r' nx => r' = .none ∧ ∃ (om' D' : Obj) (r d : Addr) (own : Led), nx = (mp, om') :: (d, D') :: (own ++ (R ++ ex)) ∧ om'.IsDictOf (PySem.strKind PP w) (stored kvs nm (.ref r)) ∧ RMS (own ++ R) r d D' ([0].take low ++ [first, last + 1] ++ [0].drop high) ([.none].take low ++ [dv, .none] ++ [.none].drop high) ∧ mp ≠ d ∧ (∀ p ∈ own, p.1 ≠ mp ∧ p.1 ≠ d) ∧ (∀ p ∈ R ++ ex, p.1 ≠ d) ∧ (∀ q ∈ own, ∀ p ∈ R ++ ex, p.1 ≠ q.1)) := by
  obtain ⟨dx, dd, n, h1, h2, h3, h4, t1, t2, t3, t4, v3, v4, od, kd, a1, a2, a3, a4, a5, a6, a7⟩ := hS
  have hvd : (valueAt kd nm).getD .none = .none := by rcases hnm with rfl | rfl <;> assumption
  have b1 := List.mem_append_left ex a1
  have b2 := List.mem_append_left ex a2
  have b3 := List.mem_append_left ex a3
  intro mean mg mb dp un gd cn cs ad ccd cl0 outer A₀ base h₀ L m s Q E B F X N T hk hdp0 hun9 ret
  refine wpAny_call ?_
  k_dflt ktr_enter
  rename Fr _ _ _ _ => F0
  have F1 : Fr _ _ _ (fun y => List.lookup y [(Str.ofString "value", v), (Str.ofString "last", Value.int last tl), (Str.ofString "first", Value.int first tf), (Str.ofString "name", Value.str nm tn), (Str.ofString "self", Value.ref x)]) := F0
  clear F0
  k_steps
  unfold Hold
  k_dflt (refine' Spec.use ?B ?F ?X ?N ?T ?K (map_of_new_c w (R ++ ex) x dx dd mp n h1 h2 h3 h4 t1 t2 t3 t4 v3 v4 om od kvs kd nm tn b1 b2 hmp lo hom hval hkl b3 a4 a5 hvd) ?d ?u ?_)
  (case B => k_asm)
  (case F => k_asm)
  (case X => k_asm)
  (case N => k_asm)
  (case T => k_asm)
  (case K => first | exact rfl | assumption)
  (case d => ktr_room)
  (case u => ktr_units)
  k_whole
  rintro v9 nx9 h' tk' ⟨r, d, ls, lv, om', g1, g2, g3, q1, q2, q3, q4, e1, e2, hom', ⟨f1, f2, f3, f4⟩, n1, n2, n3⟩ F' N'
  subst e1
  subst e2
  clear F1
  k_steps
  unfold Hold
  have G : ∀ p ∈ R ++ ex, p.1 ≠ d := fun p hp => Nat.ne_of_lt (f2 p (.tail _ hp))
  have Gr : ∀ p ∈ R ++ ex, p.1 ≠ r := fun p hp => Nat.ne_of_lt (f1 p (.tail _ hp))
  have Gs : ∀ p ∈ R ++ ex, p.1 ≠ ls := fun p hp => Nat.ne_of_lt (f3 p (.tail _ hp))
  have Gv : ∀ p ∈ R ++ ex, p.1 ≠ lv := fun p hp => Nat.ne_of_lt (f4 p (.tail _ hp))
  have md : mp ≠ d := Nat.ne_of_lt (f2 _ (.head _))
  have mr : mp ≠ r := Nat.ne_of_lt (f1 _ (.head _))
  have ms : mp ≠ ls := Nat.ne_of_lt (f3 _ (.head _))
  have mv : mp ≠ lv := Nat.ne_of_lt (f4 _ (.head _))
  rename News _ _ _ _ => nN
  k_dflt (refine' Spec.use ?B ?F ?X (cb_drop nN (perm_new (R := R) (ex := ex))) ?T ?K (rm_put_c w ([(r, instObj 230 d), (ls, listOf #[Value.int 0 q4] 0), (lv, listOf #[Value.none] 0)] ++ R) (ex ++ [(mp, om')]) r d (rmDict g1 g2 g3 q1 q2 q3 .none ls lv 3) [0] [.none] first last tf tl v dv low high ⟨g1, g2, g3, q1, q2, q3, .none, ls, lv, 3, 0, 0, [.int 0 q4], [.none], rfl, .head _, .tail _ (.head _), .cons 0 q4 .nil, .tail _ (.tail _ (.head _)), .cons .none .nil⟩ (hdv.mono (fun p hp => .tail _ (.tail _ (.tail _ hp)))) ?hd C) ?d ?u ?_)
  (case B => k_asm)
  (case F => k_asm)
  (case X => k_asm)
  (case T => k_asm)
  (case K => first | exact rfl | assumption)
  (case hd =>
    intro p hp
    simp only [List.mem_append, List.mem_cons, List.not_mem_nil, or_false, List.cons_append, List.nil_append] at hp
    rcases hp with rfl | rfl | rfl | hp | hp | rfl
    · exact n1.symm
    · exact n2.symm
    · exact n3.symm
    · exact G p (List.mem_append_left _ hp)
    · exact G p (List.mem_append_right _ hp)
    · exact md)
  (case d => ktr_room)
  (case u => ktr_units)
  k_whole
  rintro v9 nx9 h'' tk'' ⟨e1, D', own, e2, e3, e4, e5⟩ F'' N''
  subst e1
  subst e2
  clear nN
  k_steps
  refine ret _ _ _ _ ⟨rfl, om', D', r, d, own ++ [(r, instObj 230 d), (ls, listOf #[Value.int 0 q4] 0), (lv, listOf #[Value.none] 0)], rfl, hom', ?_, md, ?_, G, ?_⟩ (by assumption) (cb_drop (by assumption) perm_new2)
  · rw [List.append_assoc]; exact e3
  · intro p hp
    refine ⟨?_, ?_⟩
    · simp only [List.mem_append, List.mem_cons, List.not_mem_nil, or_false] at hp
      rcases hp with hp | rfl | rfl | rfl
      · exact (e5 p hp (mp, om') (by simp)).symm
      · exact mr.symm
      · exact ms.symm
      · exact mv.symm
    · simp only [List.mem_append, List.mem_cons, List.not_mem_nil, or_false] at hp
      rcases hp with hp | rfl | rfl | rfl
      · exact e4 p hp
      · exact n1.symm
      · exact n2.symm
      · exact n3.symm
  · intro q hq p hp
    simp only [List.mem_append, List.mem_cons, List.not_mem_nil, or_false] at hq
    rcases hq with hq | rfl | rfl | rfl
    · exact e5 q hq p (by simp only [List.mem_append] at hp ⊢; rcases hp with h | h <;> simp [h])
    · exact Gr p hp
    · exact Gs p hp
    · exact Gv p hp
end
local macro_rules | `(tactic| walk_at "mine pad108") => `(tactic| skip)
local macro_rules | `(tactic| walk_at "mine pad109") => `(tactic| skip)
end
local macro_rules | `(tactic| walk_at "mine pad110") => `(tactic| skip)
local macro_rules | `(tactic| walk_at "mine pad111") => `(tactic| skip)
local macro_rules | `(tactic| walk_at "mine pad112") => `(tactic| skip)
local macro_rules | `(tactic| walk_at "mine pad113") => `(tactic| skip)
local macro_rules | `(tactic| walk_at "mine pad114") => `(tactic| skip)
local macro_rules | `(tactic| walk_at "mine pad115") => `(tactic| skip)
local macro_rules | `(tactic| walk_at "mine pad116") => `(tactic| skip)
local macro_rules | `(tactic| walk_at "mine pad117") => `(tactic| skip)
theorem unit_m5_for : True := by
  w_top off
  trivial
--@nofill
/-! ## for loops with a ledger that grows: one turn for all -/
section
variable {prog : Program} {w : World} {A : Around} {E : Value → Shared → Prop} {s : Shared} {env : Env} {h₀ : Heap} {x : Str} {target : PySem.Expr} {body : List Stmt} {Q : Flow → Shared → Prop}
/-- what a turn leaves: the iterator as it is, a ledger off it with G, the names that the loop does not store as they stood -/
def FoEnd (h₀ : Heap) (L : Addr) (s₁ : Shared) (I : Addr) (oI : Obj) (stored : List Str) (m₀ : Str → Option Value) (G : Led → Prop) (s₂ : Shared) : Prop :=
  ∃ h' tk m' nx, s₂ = { s₁ with heap := h', toks := tk } ∧ Fr h₀ L h' m' ∧ News h₀ L h' ((I, oI) :: nx) ∧ (∀ p ∈ nx, p.1 ≠ I) ∧ (∀ z, stored.contains z = false → m' z = m₀ z) ∧ G nx
def FoPost (h₀ : Heap) (L : Addr) (s₁ : Shared) (I : Addr) (oI : Obj) (stored : List Str) (m₀ : Str → Option Value) (G : Led → Prop) (Q : Flow → Shared → Prop) (f : Flow) (s₂ : Shared) : Prop :=
  match f with
  | .ret v => Q (.ret v) s₂
  | .brk => Q .next s₂
  | _ => FoEnd h₀ L s₁ I oI stored m₀ G s₂
theorem foend {L : Addr} {s₁ : Shared} {I : Addr} {oI : Obj} {stored : List Str} {m₀ m' : Str → Option Value} {G : Led → Prop} {h' : Heap} {tk : Nat} (nx : Led) (F : Fr h₀ L h' m') (N : News h₀ L h' ((I, oI) :: nx)) (hI : ∀ p ∈ nx, p.1 ≠ I) (hm : ∀ z, stored.contains z = false → m' z = m₀ z) (g : G nx) :
    FoEnd h₀ L s₁ I oI stored m₀ G { s₁ with heap := h', toks := tk } := ⟨h', tk, m', nx, rfl, F, N, hI, hm, g⟩
theorem names_of {stored : List Str} {m m₀ : Str → Option Value} (h : ∀ z, stored.contains z = false → m z = m₀ z) : m = fun z => if stored.contains z then m z else m₀ z := by
  funext z
  cases hz : stored.contains z with
  | true => simp
  | false => simp [h z hz]
theorem range_inv {I : Addr} {a : Int} {n : Nat} {m₀ : Str → Option Value} (stored : List Str) (G : Nat → Led → Prop)
    (turn : ∀ (i : Nat) (t : Tok) (u : Str → Option Value) (h : Heap) (tk : Nat) (oI : Obj) (nx : Led), i < n → G i nx → (∀ p ∈ nx, p.1 ≠ I) → Fr h₀ env.locals h (fun y => if y = x then some (.int (a + (i : Int)) t) else if stored.contains y then u y else m₀ y) → News h₀ env.locals h ((I, oI) :: nx) →
      wpAny (model prog w) A (execs body env) (FoPost h₀ env.locals { s with heap := h, toks := tk } I oI (x :: stored) m₀ (G (i + 1)) Q) E { s with heap := h, toks := tk })
    (done : ∀ (u : Str → Option Value) (h : Heap) (tk : Nat) (nx : Led), G n nx → Fr h₀ env.locals h (fun y => if (x :: stored).contains y then u y else m₀ y) → News h₀ env.locals h nx → Q .next { s with heap := h, toks := tk }) :
    ∀ (k i : Nat) (m : Str → Option Value) (nx : Led), i + k = n → G i nx → (∀ p ∈ nx, p.1 ≠ I) → (∀ z, (x :: stored).contains z = false → m z = m₀ z) → RangeRest prog w A E h₀ env x body Q s I a n k i m nx := by
  intro k
  induction k with
  | zero =>
    intro i m nx hi g hI hm
    refine RangeRest.zero (fun h tk F N => ?_)
    have e : i = n := by omega
    subst e
    rw [names_of hm] at F
    exact done m h tk nx g F N
  | succ k ih =>
    intro i m nx hi g hI hm
    refine RangeRest.succ (fun t h tk F N => ?_)
    have e : (fun y => if y = x then some (Value.int (a + (i : Int)) t) else m y) = (fun y => if y = x then some (.int (a + (i : Int)) t) else if stored.contains y then m y else m₀ y) := by
      funext y
      by_cases hy : y = x
      · rw [if_pos hy, if_pos hy]
      · rw [if_neg hy, if_neg hy]
        cases hz : stored.contains y with
        | true => simp
        | false =>
          have : (x :: stored).contains y = false := by simp [List.contains_cons, hy, hz] ; exact by simpa using hz
          simp [hm y this]
    rw [e] at F
    refine wpAny_mono (turn i t m h tk _ nx (by omega) g hI F N) (fun f s₂ q => ?_) fun _ _ e => e
    have key : ∀ oI, FoEnd h₀ env.locals { s with heap := h, toks := tk } I oI (x :: stored) m₀ (G (i + 1)) s₂ → UnrEnd h₀ env.locals { s with heap := h, toks := tk } I oI (RangeRest prog w A E h₀ env x body Q s I a n k (i + 1)) s₂ := by
      intro oI
      rintro ⟨h', tk', m', nx', e, F', N', hI', hm', g'⟩
      exact ⟨h', tk', m', nx', e, F', N', hI', ih (i + 1) m' nx' (by omega) g' hI' hm'⟩
    cases f with
    | ret v => exact q
    | brk => exact q
    | next => exact key _ q
    | cont => exact key _ q
theorem items_inv {I : Addr} {cls : String} {keep : Led} {m₀ : Str → Option Value} (xs : List Itm) (stored : List Str) (G : Nat → Led → Prop) (hkeep : ∀ i nx, G i nx → SubL keep nx)
    (turn : ∀ (i : Nat) (a : Itm) (v : Value) (u : Str → Option Value) (h : Heap) (tk : Nat) (oI : Obj) (nx : Led), xs[i]? = some a → a.Is v h → G i nx → (∀ p ∈ nx, p.1 ≠ I) → Fr h₀ env.locals h (fun y => if stored.contains y then u y else m₀ y) → News h₀ env.locals h ((I, oI) :: nx) →
      wpAny (model prog w) A (assign target env v) (fun _ s₂ => wpAny (model prog w) A (execs body env) (FoPost h₀ env.locals { s with heap := h, toks := tk } I oI stored m₀ (G (i + 1)) Q) E s₂) E { s with heap := h, toks := tk })
    (done : ∀ (u : Str → Option Value) (h : Heap) (tk : Nat) (nx : Led), G xs.length nx → Fr h₀ env.locals h (fun y => if stored.contains y then u y else m₀ y) → News h₀ env.locals h nx → Q .next { s with heap := h, toks := tk }) :
    ∀ (ys : List Itm) (i : Nat) (m : Str → Option Value) (nx : Led), xs.drop i = ys → i + ys.length = xs.length → G i nx → (∀ p ∈ nx, p.1 ≠ I) → (∀ z, stored.contains z = false → m z = m₀ z) → ItemsRest prog w A E h₀ env target body Q s [(I, cls)] keep ys m nx := by
  intro ys
  induction ys with
  | nil =>
    intro i m nx hd hi g hI hm
    refine ItemsRest.zero (fun h tk F N => ?_)
    have e : i = xs.length := by simpa using hi
    subst e
    rw [names_of hm] at F
    exact done m h tk nx g F N
  | cons a ys ih =>
    intro i m nx hd hi g hI hm
    intro v h tk hav F oI hcls N
    have hlt : i < xs.length := by simp only [List.length_cons] at hi; omega
    have hd2 := List.drop_eq_getElem_cons hlt
    rw [hd] at hd2
    have ha : xs[i]? = some a := by rw [List.getElem?_eq_getElem hlt]; exact congrArg some (List.cons.inj hd2).1.symm
    rw [names_of hm] at F
    refine wpAny_mono (turn i a v m h tk oI nx ha hav g hI F N) (fun _ s₂ q => wpAny_mono q (fun f s₃ q => ?_) fun _ _ e => e) fun _ _ e => e
    have key : FoEnd h₀ env.locals { s with heap := h, toks := tk } I oI stored m₀ (G (i + 1)) s₃ → UnrEndW h₀ env.locals { s with heap := h, toks := tk } [(I, oI)] (fun m' n' => SubL keep n' ∧ ItemsRest prog w A E h₀ env target body Q s [(I, cls)] keep ys m' n') s₃ := by
      rintro ⟨h', tk', m', nx', e, F', N', hI', hm', g'⟩
      refine ⟨h', tk', m', nx', e, F', N', fun p hp q hq => by rw [List.mem_singleton.mp hq]; exact hI' p hp, hkeep _ _ g', ih (i + 1) m' nx' (List.cons.inj hd2).2.symm (by simp only [List.length_cons] at hi; omega) g' hI' hm'⟩
    cases f with
    | ret v => exact q
    | brk => exact q
    | next => exact key q
    | cont => exact key q
end
--@M
local macro_rules | `(tactic| walk_at "FoPost") => `(tactic| (dsimp only [FoPost]))
local macro_rules | `(tactic| walk_at "FoEnd") => `(tactic| (refine hold ?_))
--@E
theorem unit_m6_defs : True := by
  w_top off
  trivial
/-! ## data_defaults -/
theorem va_map {kvs : List (Str × Value)} {k k' : Str} {v : Value} : valueAt (kvs.map (fun kv => if kv.1 = k then (kv.1, v) else kv)) k' = if k' = k then (valueAt kvs k').map (fun _ => v) else valueAt kvs k' := by
  induction kvs with
  | nil => simp [valueAt]
  | cons p r ih =>
    unfold valueAt at ih ⊢
    rw [List.map_cons, List.find?_cons, List.find?_cons]
    by_cases h1 : p.1 = k
    · by_cases h2 : p.1 = k'
      · simp [h1, h2, ← h2]
      · have h3 : ¬ k = k' := by rw [← h1]; exact h2
        simp only [h1, if_true, h3, decide_false, if_neg (Ne.symm h3)] at ih ⊢
        simpa [h1] using ih
    · by_cases h2 : p.1 = k'
      · have h3 : ¬ k' = k := by rw [← h2]; exact h1
        simp [h1, h2, h3]
      · simp only [if_neg h1, h2, decide_false] at ih ⊢
        exact ih
theorem va_stored {kvs : List (Str × Value)} {k k' : Str} {v : Value} : valueAt (stored kvs k v) k' = if k' = k then some v else valueAt kvs k' := by
  cases h : valueAt kvs k with
  | none =>
    rw [stored_absent h]
    by_cases e : k' = k
    · subst e; rw [if_pos rfl, ← stored_absent h]; exact va_new h
    · rw [if_neg e]
      unfold valueAt
      rw [List.find?_append]
      simp [Ne.symm e]
  | some u =>
    have ha : (kvs.any fun kv => kv.1 = k) = true := by rw [← valueAt_isSome_eq_any, h]; rfl
    unfold stored
    rw [if_pos ha, va_map]
    by_cases e : k' = k
    · subst e; rw [if_pos rfl, if_pos rfl, h]; rfl
    · rw [if_neg e, if_neg e]
theorem stored_len {kvs : List (Str × Value)} {k : Str} {v : Value} : (stored kvs k v).length ≤ kvs.length + 1 := by
  unfold stored; split <;> simp
def DefOk (kvs : List (Str × Value)) : Prop := (valueAt kvs (Str.ofString "nt")).getD .none = .none ∧ (valueAt kvs (Str.ofString "nv")).getD .none = .none
theorem DefOk.st {kvs : List (Str × Value)} {k : Str} {v : Value} (h : DefOk kvs) (hk : v = .none ∨ (k ≠ Str.ofString "nt" ∧ k ≠ Str.ofString "nv")) : DefOk (stored kvs k v) := by
  unfold DefOk
  rw [va_stored, va_stored]
  refine ⟨?_, ?_⟩
  · split
    · rename_i e
      rcases hk with rfl | ⟨h1, _⟩
      · rfl
      · exact absurd e.symm h1
    · exact h.1
  · split
    · rename_i e
      rcases hk with rfl | ⟨_, h2⟩
      · rfl
      · exact absurd e.symm h2
    · exact h.2
theorem DefOk_of {prog : Program} {w : World} {o : Obj} {kvs : List (Str × Value)} (h : o.IsDictOf (PySem.strKind prog w) kvs) (h1 : valueAt kvs (Str.ofString "nt") = none) (h2 : valueAt kvs (Str.ofString "nv") = none) : DefOk kvs := ⟨by rw [h1]; rfl, by rw [h2]; rfl⟩
theorem ne3 {T D I : Addr} {a b b' : Obj} {news : Led} (h : ∀ p ∈ (T, a) :: (D, b) :: news, p.1 ≠ I) : ∀ p ∈ (T, a) :: (D, b') :: news, p.1 ≠ I := by
  intro p hp
  rcases List.mem_cons.mp hp with rfl | hp
  · exact h (T, a) (.head _)
  rcases List.mem_cons.mp hp with rfl | hp
  · exact h (D, b) (.tail _ (.head _))
  · exact h p (.tail _ (.tail _ hp))
theorem keep1 {x : Str} {v : Option Value} {u m : Str → Option Value} : ∀ z, [x].contains z = false → (if z = x then v else if [x].contains z = true then u z else m z) = m z := by
  intro z hz
  have hx : z ≠ x := by intro e; subst e; simp at hz
  rw [if_neg hx, hz]; simp
def strOk (c : Bool) (a : Itm) : Prop := ∃ nm t, a = .val (.str nm t) ∧ (c = true ∨ (nm ≠ Str.ofString "nt" ∧ nm ≠ Str.ofString "nv"))
theorem strOk_at {c : Bool} {xs : List Itm} (h : ∀ a ∈ xs, strOk c a) {i : Nat} {a : Itm} {v : Value} {g : Heap} (ha : xs[i]? = some a) (hav : a.Is v g) : ∃ nm t, v = .str nm t ∧ (c = true ∨ (nm ≠ Str.ofString "nt" ∧ nm ≠ Str.ofString "nv")) := by
  obtain ⟨nm, t, rfl, h2⟩ := h a (List.mem_of_getElem? ha)
  exact ⟨nm, t, hav, h2⟩
section
local macro_rules | `(tactic| k_all) => `(tactic| first | assumption | exact fun p hp => Nat.ne_of_lt ((by assumption : ∀ p ∈ _, p.1 < _) p hp))
local macro_rules | `(tactic| k_mem) => `(tactic| kcf_m)
local macro_rules | `(tactic| walk_at "exec For Name Tuple cons nil") => `(tactic| (k_here; (refine' For_turns ?FF ?_ ?hs ?hE); (case FF => k_asm); (case hs => (intro _; rfl)); (case hE => passes_own); k_whole))
local macro_rules | `(tactic| walk_at "pyIter ref") => `(tactic| (refine hold ?_))
local macro_rules | `(tactic| walk_at "setItem ref str") => `(tactic| (k_here; k_dflt (refine' kda_set (knd := PySem.strKind _ _) ?F ?N ?U ?d (strKind_is _ _ _ _) ?z ?_; (case F => k_asm); (case N => k_asm); (case U => k_updF); (case d => k_asm); (case z => rw [sizeLine_eq]; omega)); intro h' o' F' N' hd'; (try dsimp only at N')))
local macro_rules | `(tactic| walk_at "eval Dict cons cons") => `(tactic| (k_here; k_dflt (refine' kdn_str ?q ?F ?N ?b ?a ?l ?e ?n ?_; (case q => rfl); (case F => k_asm); (case N => k_asm); (case b => exact Top.nolimit (by k_asm)); (case a => rfl); (case l => rfl); (case e => exact List.cons_ne_nil _ _); (case n => exact Nat.le_of_ble_eq_true rfl)); intro d' h' o' F' N' l1 lo' hd'; (try k_lt l1)))
local macro_rules | `(tactic| walk_at "newTuple") => `(tactic| (k_here; k_dflt (refine' kup_newTuple ?F ?N ?_ ?z; (case F => k_asm); (case N => k_asm); (case z => (rw [sizeLine_eq]; exact Nat.le_of_ble_eq_true rfl))); intro D' h' F' N' l1; (try k_lt l1); (try k_sweep)))
local macro_rules | `(tactic| walk_at "KdnMade") => `(tactic| (k_here; k_dflt ((refine' kdn_made_str ?F ?N ?U ?d ?k ?n ?_; (case F => k_asm); (case N => k_asm); (case U => k_updF); (case d => k_asm); (case k => rfl); (case n => exact of_decide_eq_true (by first | rfl | kernel_rfl!)); intro h' o' F' N' hd')); (try dsimp only at N')))
theorem defaults_c (w : World) (news : Led) :
    Spec w 241 [] 1 news (fun v nx => ∃ D o kvs, v = .ref D ∧ nx = (D, o) :: news ∧ (∀ p ∈ news, p.1 < D) ∧ (D == sysModules) = false ∧ o.IsDictOf (PySem.strKind PP w) kvs ∧ DefOk kvs) := by
  intro mean mg mb dp un gd cn cs a ccd cl0 outer A₀ base h₀ L m s Q E B F X N T hk hdp0 hun9 ret
  refine wpAny_call ?_
  k_dflt ktr_enter
  rename Fr _ _ _ _ => F0
  have F1 : Fr _ _ _ (fun y => List.lookup y ([] : List (Str × Value))) := F0
  clear F0
  k_steps
  unfold Hold
  rename Obj.IsDictOf _ _ _ => hD
  rename News _ _ _ _ => nN
  rename Fr _ _ _ _ => nF
  have ok0 := DefOk_of (hD) rfl rfl
  obtain ⟨kvs1, hD1, ok1, len1⟩ : ∃ kvs, Obj.IsDictOf (PySem.strKind PP w) _ kvs ∧ DefOk kvs ∧ kvs.length ≤ 8 := ⟨_, hD, ok0, Nat.le_of_ble_eq_true rfl⟩
  clear hD ok0
  rename (_ == sysModules) = false => lo1
  rename _ ∧ AllLt _ news => l0
  k_dflt (refine iter_tupTurns rfl nF nN (.head _) rfl rfl (fun I hI => ?_))
  refine items_inv _ [Str.ofString "name"] (fun i nx => ∃ o kvs, nx = (_, _) :: (_, o) :: news ∧ Obj.IsDictOf (PySem.strKind PP w) o kvs ∧ DefOk kvs ∧ kvs.length ≤ 8 + i) ?_ ?_ ?_ _ 0 _ _ rfl rfl ⟨_, _, rfl, hD1, ok1, len1⟩ (fun p hp => Nat.ne_of_lt (hI p hp)) (fun _ _ => rfl)
  · rintro i nx ⟨o, kvs, e, -⟩; rw [e]; exact ⟨.head _, trivial⟩
  · rintro i a9 v9 u h tk oI nx ha hav ⟨o2, kvs2, e, hd2, ok2, len2⟩ hI2 F2 N2
    subst e
    clear nF nN hD1 ok1 len1
    obtain ⟨nm, tn, rfl, hcond⟩ := strOk_at (c := false) (by (repeat (refine List.forall_mem_cons.mpr ⟨⟨_, _, rfl, .inr ⟨by decide, by decide⟩⟩, ?_⟩)); exact List.forall_mem_nil _) ha hav
    have hi9 : i < 3 := (List.getElem?_eq_some_iff.mp ha).1
    have hI3 : @Ne Nat _ _ := hI2 _ (.head _)
    have hI4 : @Ne Nat _ _ := hI2 _ (.tail _ (.head _))
    dsimp only at hI3 hI4
    (try k_unmd); (try k_fold)
    k_steps
    unfold Hold
    rename Obj.IsDictOf _ _ (stored _ _ _) => hd9
    rename News _ _ _ _ => nN9
    refine foend _ (by assumption) nN9 (ne3 hI2) keep1 ⟨_, _, rfl, hd9, ok2.st (.inr (hcond.resolve_left (by decide))), Nat.le_trans stored_len (by omega)⟩
  clear hD1 ok1 len1 nF nN l0
  rintro u h tk nx ⟨o, kvs1, e, hD1, ok1, len1⟩ F2 N2
  subst e
  replace len1 : kvs1.length ≤ 11 := len1
  replace N2 := cb_drop N2 (fun p hp => List.Mem.tail _ hp)
  (try k_unmd); (try k_fold)
  k_steps
  unfold Hold
  rename News _ _ _ _ => nN
  rename Fr _ _ _ _ => nF
  rename _ ∧ AllLt _ news => l0
  k_dflt (refine iter_tupTurns rfl nF nN (.head _) rfl rfl (fun I hI => ?_))
  refine items_inv _ [Str.ofString "name"] (fun i nx => ∃ o kvs, nx = (_, _) :: (_, o) :: news ∧ Obj.IsDictOf (PySem.strKind PP w) o kvs ∧ DefOk kvs ∧ kvs.length ≤ 11 + i) ?_ ?_ ?_ _ 0 _ _ rfl rfl ⟨_, _, rfl, hD1, ok1, len1⟩ (fun p hp => Nat.ne_of_lt (hI p hp)) (fun _ _ => rfl)
  · rintro i nx ⟨o, kvs, e, -⟩; rw [e]; exact ⟨.head _, trivial⟩
  · rintro i a9 v9 u h tk oI nx ha hav ⟨o2, kvs2, e, hd2, ok2, len2⟩ hI2 F2 N2
    subst e
    clear nF nN hD1 ok1 len1
    obtain ⟨nm, tn, rfl, hcond⟩ := strOk_at (c := false) (by (repeat (refine List.forall_mem_cons.mpr ⟨⟨_, _, rfl, .inr ⟨by decide, by decide⟩⟩, ?_⟩)); exact List.forall_mem_nil _) ha hav
    have hi9 : i < 13 := (List.getElem?_eq_some_iff.mp ha).1
    have hI3 : @Ne Nat _ _ := hI2 _ (.head _)
    have hI4 : @Ne Nat _ _ := hI2 _ (.tail _ (.head _))
    dsimp only at hI3 hI4
    (try k_unmd); (try k_fold)
    k_steps
    unfold Hold
    rename Obj.IsDictOf _ _ (stored _ _ _) => hd9
    rename News _ _ _ _ => nN9
    refine foend _ (by assumption) nN9 (ne3 hI2) keep1 ⟨_, _, rfl, hd9, ok2.st (.inr (hcond.resolve_left (by decide))), Nat.le_trans stored_len (by omega)⟩
  clear hD1 ok1 len1 nF nN l0
  rintro u h tk nx ⟨o, kvs1, e, hD1, ok1, len1⟩ F2 N2
  subst e
  replace len1 : kvs1.length ≤ 24 := len1
  replace N2 := cb_drop N2 (fun p hp => List.Mem.tail _ hp)
  (try k_unmd); (try k_fold)
  k_steps
  unfold Hold
  rename News _ _ _ _ => nN
  rename Fr _ _ _ _ => nF
  rename _ ∧ AllLt _ news => l0
  k_dflt (refine iter_tupTurns rfl nF nN (.head _) rfl rfl (fun I hI => ?_))
  refine items_inv _ [Str.ofString "name"] (fun i nx => ∃ o kvs, nx = (_, _) :: (_, o) :: news ∧ Obj.IsDictOf (PySem.strKind PP w) o kvs ∧ DefOk kvs ∧ kvs.length ≤ 24 + i) ?_ ?_ ?_ _ 0 _ _ rfl rfl ⟨_, _, rfl, hD1, ok1, len1⟩ (fun p hp => Nat.ne_of_lt (hI p hp)) (fun _ _ => rfl)
  · rintro i nx ⟨o, kvs, e, -⟩; rw [e]; exact ⟨.head _, trivial⟩
  · rintro i a9 v9 u h tk oI nx ha hav ⟨o2, kvs2, e, hd2, ok2, len2⟩ hI2 F2 N2
    subst e
    clear nF nN hD1 ok1 len1
    obtain ⟨nm, tn, rfl, hcond⟩ := strOk_at (c := true) (by (repeat (refine List.forall_mem_cons.mpr ⟨⟨_, _, rfl, .inl rfl⟩, ?_⟩)); exact List.forall_mem_nil _) ha hav
    have hi9 : i < 13 := (List.getElem?_eq_some_iff.mp ha).1
    have hI3 : @Ne Nat _ _ := hI2 _ (.head _)
    have hI4 : @Ne Nat _ _ := hI2 _ (.tail _ (.head _))
    dsimp only at hI3 hI4
    (try k_unmd); (try k_fold)
    k_steps
    unfold Hold
    rename Obj.IsDictOf _ _ (stored _ _ _) => hd9
    rename News _ _ _ _ => nN9
    refine foend _ (by assumption) nN9 (ne3 hI2) keep1 ⟨_, _, rfl, hd9, ok2.st (.inl rfl), Nat.le_trans stored_len (by omega)⟩
  clear hD1 ok1 len1 nF nN l0
  rintro u h tk nx ⟨o, kvs1, e, hD1, ok1, len1⟩ F2 N2
  subst e
  replace len1 : kvs1.length ≤ 37 := len1
  replace N2 := cb_drop N2 (fun p hp => List.Mem.tail _ hp)
  (try k_unmd); (try k_fold)
  k_steps
  unfold Hold
  rename News _ _ _ _ => nN
  rename Fr _ _ _ _ => nF
  rename _ ∧ AllLt _ news => l0
  k_dflt (refine iter_tupTurns rfl nF nN (.head _) rfl rfl (fun I hI => ?_))
  refine items_inv _ [Str.ofString "name"] (fun i nx => ∃ o kvs, nx = (_, _) :: (_, o) :: news ∧ Obj.IsDictOf (PySem.strKind PP w) o kvs ∧ DefOk kvs ∧ kvs.length ≤ 37 + i) ?_ ?_ ?_ _ 0 _ _ rfl rfl ⟨_, _, rfl, hD1, ok1, len1⟩ (fun p hp => Nat.ne_of_lt (hI p hp)) (fun _ _ => rfl)
  · rintro i nx ⟨o, kvs, e, -⟩; rw [e]; exact ⟨.head _, trivial⟩
  · rintro i a9 v9 u h tk oI nx ha hav ⟨o2, kvs2, e, hd2, ok2, len2⟩ hI2 F2 N2
    subst e
    clear nF nN hD1 ok1 len1
    obtain ⟨nm, tn, rfl, hcond⟩ := strOk_at (c := false) (by (repeat (refine List.forall_mem_cons.mpr ⟨⟨_, _, rfl, .inr ⟨by decide, by decide⟩⟩, ?_⟩)); exact List.forall_mem_nil _) ha hav
    have hi9 : i < 4 := (List.getElem?_eq_some_iff.mp ha).1
    have hI3 : @Ne Nat _ _ := hI2 _ (.head _)
    have hI4 : @Ne Nat _ _ := hI2 _ (.tail _ (.head _))
    dsimp only at hI3 hI4
    (try k_unmd); (try k_fold)
    k_steps
    unfold Hold
    rename Obj.IsDictOf _ _ (stored _ _ _) => hd9
    rename News _ _ _ _ => nN9
    refine foend _ (by assumption) (cb_drop nN9 (fun p hp => List.Mem.tail _ hp)) (ne3 hI2) keep1 ⟨_, _, rfl, hd9, ok2.st (.inr (hcond.resolve_left (by decide))), Nat.le_trans stored_len (by omega)⟩
  clear hD1 ok1 len1 nF nN l0
  rintro u h tk nx ⟨o, kvs1, e, hD1, ok1, len1⟩ F2 N2
  subst e
  replace len1 : kvs1.length ≤ 41 := len1
  replace N2 := cb_drop N2 (fun p hp => List.Mem.tail _ hp)
  (try k_unmd); (try k_fold)
  k_steps
  rename Obj.IsDictOf _ _ (stored _ _ _) => hd9
  rename News _ _ _ _ => nN9
  rename ∀ p ∈ news, p.1 < _ => lt9
  exact ret _ _ _ _ ⟨_, _, _, rfl, rfl, lt9, lo1, hd9, ok1.st (.inr ⟨by decide, by decide⟩)⟩ (by assumption) (cb_drop nN9 (by kcf_all))
end
local macro_rules | `(tactic| walk_at "mine pad118") => `(tactic| skip)
local macro_rules | `(tactic| walk_at "mine pad119") => `(tactic| skip)
local macro_rules | `(tactic| walk_at "mine pad120") => `(tactic| skip)
local macro_rules | `(tactic| walk_at "mine pad121") => `(tactic| skip)
local macro_rules | `(tactic| walk_at "mine pad122") => `(tactic| skip)
local macro_rules | `(tactic| walk_at "mine pad123") => `(tactic| skip)
local macro_rules | `(tactic| walk_at "mine pad124") => `(tactic| skip)
local macro_rules | `(tactic| walk_at "mine pad125") => `(tactic| skip)
local macro_rules | `(tactic| walk_at "mine pad126") => `(tactic| skip)
theorem unit_m7_pst : True := by
  w_top off
  trivial
--@nofill
/-! ## the database while it is built -/
def Apart (a b : Led) : Prop := ∀ p ∈ a, ∀ q ∈ b, p.1 ≠ q.1
abbrev kNt : Str := Str.ofString "nt"
abbrev kNv : Str := Str.ofString "nv"
def P0 (w : World) (x : Addr) (news nx : Led) : Prop :=
  ∃ (mp : Addr) (om : Obj) (R : Led), nx = (mp, om) :: (R ++ news) ∧ DS w R x mp ∧ (mp == sysModules) = false ∧ om.IsDictOf (PySem.strKind PP w) [] ∧ (∀ p ∈ R ++ news, p.1 ≠ mp) ∧ Apart R news
def P1 (w : World) (x : Addr) (news : Led) (sa : List Int) (va : List Dat) (nx : Led) : Prop :=
  ∃ (mp : Addr) (om : Obj) (r1 d1 : Addr) (D1 : Obj) (R : Led), nx = (mp, om) :: (d1, D1) :: (R ++ news) ∧ DS w R x mp ∧ (mp == sysModules) = false ∧ om.IsDictOf (PySem.strKind PP w) [(kNt, .ref r1)] ∧ RMS R r1 d1 D1 sa va ∧ mp ≠ d1 ∧ (∀ p ∈ R ++ news, p.1 ≠ mp ∧ p.1 ≠ d1) ∧ Apart R news
def P2 (w : World) (x : Addr) (news : Led) (sa : List Int) (va : List Dat) (sb : List Int) (vb : List Dat) (nx : Led) : Prop :=
  ∃ (mp : Addr) (om : Obj) (r1 d1 : Addr) (D1 : Obj) (r2 d2 : Addr) (D2 : Obj) (R : Led), nx = (mp, om) :: (d1, D1) :: (d2, D2) :: (R ++ news) ∧ DS w R x mp ∧ (mp == sysModules) = false ∧ om.IsDictOf (PySem.strKind PP w) [(kNt, .ref r1), (kNv, .ref r2)] ∧ RMS R r1 d1 D1 sa va ∧ RMS R r2 d2 D2 sb vb ∧ mp ≠ d1 ∧ mp ≠ d2 ∧ d1 ≠ d2 ∧ (∀ p ∈ R ++ news, p.1 ≠ mp ∧ p.1 ≠ d1 ∧ p.1 ≠ d2) ∧ Apart R news
def putS (st : List Int) (first last : Int) (low high : Nat) : List Int := st.take low ++ [first, last + 1] ++ st.drop high
def putV (vs : List Dat) (dv : Dat) (low high : Nat) : List Dat := vs.take low ++ [dv, .none] ++ vs.drop high
theorem Spec.perm {w : World} {f : Addr} {vs : List Value} {r : Nat} {news news' : Led} {Out Out' : Value → Led → Prop} (S : Spec w f vs r news' Out) (hs : ∀ p ∈ news', p ∈ news) (h : ∀ v nx, Out v nx → ∃ nx', Out' v nx' ∧ ∀ p ∈ nx', p ∈ nx) : Spec w f vs r news Out' :=
  fun mean mg mb dp un gd cn cs a ccd cl outer A₀ base h₀ L m s Q E B F X N T hk hd hu ret =>
    S mean mg mb dp un gd cn cs a ccd cl outer A₀ base h₀ L m s Q E B F X (cb_drop N hs) T hk hd hu fun v nx h' tk' o F' N' =>
      let ⟨nx', o', hs'⟩ := h v nx o
      ret v nx' h' tk' o' F' (cb_drop N' hs')
theorem p2_put_nt (w : World) (x : Addr) (news nx tv ex : Led) (sa : List Int) (va : List Dat) (sb : List Int) (vb : List Dat) (first last : Int) (tn tf tl : Tok) (v : Value) (dv : Dat) (low high : Nat)
    (hP : P2 w x news sa va sb vb nx) (hdv : DatIn tv v dv) (h1 : Apart tv nx) (h2 : Apart ex nx) (h3 : Apart ex tv) (C : PutC sa va first last dv low high) :
    Spec w 262 [.ref x, .str kNt tn, .int first tf, .int last tl, v] 7 (nx ++ (tv ++ ex)) (fun r y => r = .none ∧ ∃ nx', y = nx' ++ ex ∧ P2 w x news (putS sa first last low high) (putV va dv low high) sb vb nx' ∧ Apart ex nx') := by
  obtain ⟨mp, om, r1, d1, D1, r2, d2, D2, R, rfl, hS, lo, hom, hR1, hR2, n1, n2, n3, hA, hB⟩ := hP
  have t1 : ∀ p ∈ tv, p.1 ≠ mp ∧ p.1 ≠ d1 ∧ p.1 ≠ d2 := fun p hp => ⟨h1 p hp (mp, om) (by simp), h1 p hp (d1, D1) (by simp), h1 p hp (d2, D2) (by simp)⟩
  have x1 : ∀ p ∈ ex, p.1 ≠ mp ∧ p.1 ≠ d1 ∧ p.1 ≠ d2 := fun p hp => ⟨h2 p hp (mp, om) (by simp), h2 p hp (d1, D1) (by simp), h2 p hp (d2, D2) (by simp)⟩
  have t2 : ∀ p ∈ tv, ∀ q ∈ news, q.1 ≠ p.1 := fun p hp q hq => (h1 p hp q (by grind)).symm
  have x2 : ∀ p ∈ ex, ∀ q ∈ R ++ news, p.1 ≠ q.1 := fun p hp q hq => h2 p hp q (by grind)
  refine (data_put_old_c w (tv ++ R) ((mp, om) :: (d2, D2) :: (news ++ ex)) x mp r1 d1 om D1 _ kNt sa va first last tn tf tl v dv low high (hS.mono (by grind)) (by grind) lo hom rfl (hR1.mono (by grind)) (hdv.mono (by grind)) ?_ C).perm (by grind) ?_
  · grind
  · rintro v9 y ⟨rfl, D', own, rfl, e2, e3, e4⟩
    have o1 : ∀ p ∈ own, p.1 ≠ mp ∧ p.1 ≠ d1 ∧ p.1 ≠ d2 := fun p hp => ⟨(e4 p hp (mp, om) (by grind)).symm, e3 p hp, (e4 p hp (d2, D2) (by grind)).symm⟩
    have o2 : ∀ p ∈ own, ∀ q ∈ news, q.1 ≠ p.1 := fun p hp q hq => e4 p hp q (by grind)
    have o3 : ∀ p ∈ own, ∀ q ∈ ex, q.1 ≠ p.1 := fun p hp q hq => e4 p hp q (by grind)
    refine ⟨_, ⟨rfl, (mp, om) :: (d1, D') :: (d2, D2) :: ((own ++ (tv ++ R)) ++ news), rfl, ⟨mp, om, r1, d1, D', r2, d2, D2, own ++ (tv ++ R), rfl, hS.mono (by grind), lo, hom, e2, hR2.mono (by grind), n1, n2, n3, ?_, ?_⟩, ?_⟩, by grind⟩
    · grind
    · intro p hp q hq
      rcases List.mem_append.mp hp with h | h
      · exact (o2 p h q hq).symm
      rcases List.mem_append.mp h with h | h
      · exact (t2 p h q hq).symm
      · exact hB p h q hq
    · intro p hp q hq
      have a1 := x1 p hp
      rcases List.mem_cons.mp hq with rfl | hq
      · exact a1.1
      rcases List.mem_cons.mp hq with rfl | hq
      · exact a1.2.1
      rcases List.mem_cons.mp hq with rfl | hq
      · exact a1.2.2
      rcases List.mem_append.mp hq with h | h
      · rcases List.mem_append.mp h with h | h
        · exact o3 q h p hp
        rcases List.mem_append.mp h with h | h
        · exact h3 p hp q h
        · exact x2 p hp q (by grind)
      · exact x2 p hp q (by grind)
theorem p2_put_nv (w : World) (x : Addr) (news nx tv ex : Led) (sa : List Int) (va : List Dat) (sb : List Int) (vb : List Dat) (first last : Int) (tn tf tl : Tok) (v : Value) (dv : Dat) (low high : Nat)
    (hP : P2 w x news sa va sb vb nx) (hdv : DatIn tv v dv) (h1 : Apart tv nx) (h2 : Apart ex nx) (h3 : Apart ex tv) (C : PutC sb vb first last dv low high) :
    Spec w 262 [.ref x, .str kNv tn, .int first tf, .int last tl, v] 7 (nx ++ (tv ++ ex)) (fun r y => r = .none ∧ ∃ nx', y = nx' ++ ex ∧ P2 w x news sa va (putS sb first last low high) (putV vb dv low high) nx' ∧ Apart ex nx') := by
  obtain ⟨mp, om, r1, d1, D1, r2, d2, D2, R, rfl, hS, lo, hom, hR1, hR2, n1, n2, n3, hA, hB⟩ := hP
  have t1 : ∀ p ∈ tv, p.1 ≠ mp ∧ p.1 ≠ d1 ∧ p.1 ≠ d2 := fun p hp => ⟨h1 p hp (mp, om) (by simp), h1 p hp (d1, D1) (by simp), h1 p hp (d2, D2) (by simp)⟩
  have x1 : ∀ p ∈ ex, p.1 ≠ mp ∧ p.1 ≠ d1 ∧ p.1 ≠ d2 := fun p hp => ⟨h2 p hp (mp, om) (by simp), h2 p hp (d1, D1) (by simp), h2 p hp (d2, D2) (by simp)⟩
  have t2 : ∀ p ∈ tv, ∀ q ∈ news, q.1 ≠ p.1 := fun p hp q hq => (h1 p hp q (by grind)).symm
  have x2 : ∀ p ∈ ex, ∀ q ∈ R ++ news, p.1 ≠ q.1 := fun p hp q hq => h2 p hp q (by grind)
  refine (data_put_old_c w (tv ++ R) ((mp, om) :: (d1, D1) :: (news ++ ex)) x mp r2 d2 om D2 _ kNv sb vb first last tn tf tl v dv low high (hS.mono (by grind)) (by grind) lo hom rfl (hR2.mono (by grind)) (hdv.mono (by grind)) ?_ C).perm (by grind) ?_
  · grind
  · rintro v9 y ⟨rfl, D', own, rfl, e2, e3, e4⟩
    have o1 : ∀ p ∈ own, p.1 ≠ mp ∧ p.1 ≠ d1 ∧ p.1 ≠ d2 := fun p hp => ⟨(e4 p hp (mp, om) (by grind)).symm, (e4 p hp (d1, D1) (by grind)).symm, e3 p hp⟩
    have o2 : ∀ p ∈ own, ∀ q ∈ news, q.1 ≠ p.1 := fun p hp q hq => e4 p hp q (by grind)
    have o3 : ∀ p ∈ own, ∀ q ∈ ex, q.1 ≠ p.1 := fun p hp q hq => e4 p hp q (by grind)
    refine ⟨_, ⟨rfl, (mp, om) :: (d1, D1) :: (d2, D') :: ((own ++ (tv ++ R)) ++ news), rfl, ⟨mp, om, r1, d1, D1, r2, d2, D', own ++ (tv ++ R), rfl, hS.mono (by grind), lo, hom, hR1.mono (by grind), e2, n1, n2, n3, ?_, ?_⟩, ?_⟩, by grind⟩
    · grind
    · intro p hp q hq
      rcases List.mem_append.mp hp with h | h
      · exact (o2 p h q hq).symm
      rcases List.mem_append.mp h with h | h
      · exact (t2 p h q hq).symm
      · exact hB p h q hq
    · intro p hp q hq
      have a1 := x1 p hp
      rcases List.mem_cons.mp hq with rfl | hq
      · exact a1.1
      rcases List.mem_cons.mp hq with rfl | hq
      · exact a1.2.1
      rcases List.mem_cons.mp hq with rfl | hq
      · exact a1.2.2
      rcases List.mem_append.mp hq with h | h
      · rcases List.mem_append.mp h with h | h
        · exact o3 q h p hp
        rcases List.mem_append.mp h with h | h
        · exact h3 p hp q h
        · exact x2 p hp q (by grind)
      · exact x2 p hp q (by grind)
theorem p0_put_nt (w : World) (x : Addr) (news nx tv ex : Led) (first last : Int) (tn tf tl : Tok) (v : Value) (dv : Dat) (low high : Nat)
    (hP : P0 w x news nx) (hdv : DatIn tv v dv) (h1 : Apart tv nx) (h2 : Apart ex nx) (h3 : Apart ex tv) (C : PutC [0] [.none] first last dv low high) :
    Spec w 262 [.ref x, .str kNt tn, .int first tf, .int last tl, v] 7 (nx ++ (tv ++ ex)) (fun r y => r = .none ∧ ∃ nx', y = nx' ++ ex ∧ P1 w x news (putS [0] first last low high) (putV [.none] dv low high) nx' ∧ Apart ex nx') := by
  obtain ⟨mp, om, R, rfl, hS, lo, hom, hA, hB⟩ := hP
  have t1 : ∀ p ∈ tv, p.1 ≠ mp := fun p hp => h1 p hp (mp, om) (by simp)
  have x1 : ∀ p ∈ ex, p.1 ≠ mp := fun p hp => h2 p hp (mp, om) (by simp)
  have t2 : ∀ p ∈ tv, ∀ q ∈ news, q.1 ≠ p.1 := fun p hp q hq => (h1 p hp q (by grind)).symm
  have x2 : ∀ p ∈ ex, ∀ q ∈ R ++ news, p.1 ≠ q.1 := fun p hp q hq => h2 p hp q (by grind)
  refine (data_put_new_c w (tv ++ R) (news ++ ex) x mp om _ kNt first last tn tf tl v dv low high (hS.mono (by grind)) ?_ lo hom rfl (.inl rfl) (by decide) (hdv.mono (by grind)) C).perm (by grind) ?_
  · grind
  · rintro v9 y ⟨rfl, om', D', r, d, own, rfl, e1, e2, e3, e4, e5, e6⟩
    have o1 : ∀ p ∈ own, p.1 ≠ mp ∧ p.1 ≠ d := e4
    have o2 : ∀ p ∈ own, ∀ q ∈ news, q.1 ≠ p.1 := fun p hp q hq => e6 p hp q (by grind)
    have o3 : ∀ p ∈ own, ∀ q ∈ ex, q.1 ≠ p.1 := fun p hp q hq => e6 p hp q (by grind)
    refine ⟨_, ⟨rfl, (mp, om') :: (d, D') :: ((own ++ (tv ++ R)) ++ news), rfl, ⟨mp, om', r, d, D', own ++ (tv ++ R), rfl, hS.mono (by grind), lo, e1, e2, e3, ?_, ?_⟩, ?_⟩, by grind⟩
    · grind
    · intro p hp q hq
      rcases List.mem_append.mp hp with h | h
      · exact (o2 p h q hq).symm
      rcases List.mem_append.mp h with h | h
      · exact (t2 p h q hq).symm
      · exact hB p h q hq
    · intro p hp q hq
      rcases List.mem_cons.mp hq with rfl | hq
      · exact x1 p hp
      rcases List.mem_cons.mp hq with rfl | hq
      · exact e5 p (by grind)
      rcases List.mem_append.mp hq with h | h
      · rcases List.mem_append.mp h with h | h
        · exact o3 q h p hp
        rcases List.mem_append.mp h with h | h
        · exact h3 p hp q h
        · exact x2 p hp q (by grind)
      · exact x2 p hp q (by grind)
theorem p1_put_nv (w : World) (x : Addr) (news nx tv ex : Led) (sa : List Int) (va : List Dat) (first last : Int) (tn tf tl : Tok) (v : Value) (dv : Dat) (low high : Nat)
    (hP : P1 w x news sa va nx) (hdv : DatIn tv v dv) (h1 : Apart tv nx) (h2 : Apart ex nx) (h3 : Apart ex tv) (C : PutC [0] [.none] first last dv low high) :
    Spec w 262 [.ref x, .str kNv tn, .int first tf, .int last tl, v] 7 (nx ++ (tv ++ ex)) (fun r y => r = .none ∧ ∃ nx', y = nx' ++ ex ∧ P2 w x news sa va (putS [0] first last low high) (putV [.none] dv low high) nx' ∧ Apart ex nx') := by
  obtain ⟨mp, om, r1, d1, D1, R, rfl, hS, lo, hom, hR1, n1, hA, hB⟩ := hP
  have t1 : ∀ p ∈ tv, p.1 ≠ mp ∧ p.1 ≠ d1 := fun p hp => ⟨h1 p hp (mp, om) (by simp), h1 p hp (d1, D1) (by simp)⟩
  have x1 : ∀ p ∈ ex, p.1 ≠ mp ∧ p.1 ≠ d1 := fun p hp => ⟨h2 p hp (mp, om) (by simp), h2 p hp (d1, D1) (by simp)⟩
  have t2 : ∀ p ∈ tv, ∀ q ∈ news, q.1 ≠ p.1 := fun p hp q hq => (h1 p hp q (by grind)).symm
  have x2 : ∀ p ∈ ex, ∀ q ∈ R ++ news, p.1 ≠ q.1 := fun p hp q hq => h2 p hp q (by grind)
  refine (data_put_new_c w (tv ++ R) ((d1, D1) :: (news ++ ex)) x mp om _ kNv first last tn tf tl v dv low high (hS.mono (by grind)) ?_ lo hom rfl (.inr rfl) (by simp) (hdv.mono (by grind)) C).perm (by grind) ?_
  · grind
  · rintro v9 y ⟨rfl, om', D', r, d, own, rfl, e1, e2, e3, e4, e5, e6⟩
    have o1 : ∀ p ∈ own, p.1 ≠ mp ∧ p.1 ≠ d1 ∧ p.1 ≠ d := fun p hp => ⟨(e4 p hp).1, (e6 p hp (d1, D1) (by grind)).symm, (e4 p hp).2⟩
    have o2 : ∀ p ∈ own, ∀ q ∈ news, q.1 ≠ p.1 := fun p hp q hq => e6 p hp q (by grind)
    have o3 : ∀ p ∈ own, ∀ q ∈ ex, q.1 ≠ p.1 := fun p hp q hq => e6 p hp q (by grind)
    have n3 : d1 ≠ d := e5 (d1, D1) (by grind)
    refine ⟨_, ⟨rfl, (mp, om') :: (d1, D1) :: (d, D') :: ((own ++ (tv ++ R)) ++ news), rfl, ⟨mp, om', r1, d1, D1, r, d, D', own ++ (tv ++ R), rfl, hS.mono (by grind), lo, e1, hR1.mono (by grind), e2, n1, e3, n3, ?_, ?_⟩, ?_⟩, by grind⟩
    · grind
    · intro p hp q hq
      rcases List.mem_append.mp hp with h | h
      · exact (o2 p h q hq).symm
      rcases List.mem_append.mp h with h | h
      · exact (t2 p h q hq).symm
      · exact hB p h q hq
    · intro p hp q hq
      rcases List.mem_cons.mp hq with rfl | hq
      · exact (x1 p hp).1
      rcases List.mem_cons.mp hq with rfl | hq
      · exact (x1 p hp).2
      rcases List.mem_cons.mp hq with rfl | hq
      · exact e5 p (by grind)
      rcases List.mem_append.mp hq with h | h
      · rcases List.mem_append.mp h with h | h
        · exact o3 q h p hp
        rcases List.mem_append.mp h with h | h
        · exact h3 p hp q h
        · exact x2 p hp q (by grind)
      · exact x2 p hp q (by grind)
theorem p2_isd {w : World} {x : Addr} {news nx : Led} {sa : List Int} {va : List Dat} {sb : List Int} {vb : List Dat} (h : P2 w x news sa va sb vb nx) : ∃ own, nx = own ++ news ∧ IsData w own x sa va sb vb ∧ Apart own news := by
  obtain ⟨mp, om, r1, d1, D1, r2, d2, D2, R, rfl, hS, lo, hom, hR1, hR2, n1, n2, n3, hA, hB⟩ := h
  obtain ⟨dx, dd, n, h1, h2, h3, h4, t1, t2, t3, t4, v3, v4, od, kd, a1, a2, a3, a4, a5, a6, a7⟩ := hS
  obtain ⟨g1, g2, g3, q1, q2, q3, v0, ls, lv, m1, kk, ks, ss, us, rfl, b1, b2, b3, b4, b5⟩ := hR1
  obtain ⟨g1', g2', g3', q1', q2', q3', v0', ls', lv', m1', kk', ks', ss', us', rfl, b1', b2', b3', b4', b5'⟩ := hR2
  refine ⟨(mp, om) :: (d1, _) :: (d2, _) :: R, rfl, ⟨dx, mp, r1, r2, n, h1, h2, h3, h4, t1, t2, t3, t4, .ref dd, v3, v4, om, by grind, by grind, by grind, hom, lo, ?_, ?_⟩, ?_⟩
  · exact ⟨d1, ls, lv, m1, kk, g1, g2, g3, q1, q2, q3, v0, us, by grind, by grind, ⟨ss, ks, by grind, b3⟩, by grind, b5.mono (by grind)⟩
  · exact ⟨d2, ls', lv', m1', kk', g1', g2', g3', q1', q2', q3', v0', us', by grind, by grind, ⟨ss', ks', by grind, b3'⟩, by grind, b5'.mono (by grind)⟩
  · intro p hp q hq
    rcases List.mem_cons.mp hp with rfl | hp
    · exact ((hA q (by grind)).1).symm
    rcases List.mem_cons.mp hp with rfl | hp
    · exact ((hA q (by grind)).2.1).symm
    rcases List.mem_cons.mp hp with rfl | hp
    · exact ((hA q (by grind)).2.2).symm
    · exact hB p hp q hq
theorem unit_m8_seq : True := by
  w_top off
  trivial
--@nofill
/-! ## the sequence of puts -/
def lawOrder (i : Nat) : Int := ([189, 8533, 3884, 8548, 178, 12295, 3891, 8542] : List Int).getD i 0
def ntF (a : Nat) : Int := if a = 0 then 48 else if a = 1 then 1632 else lawOrder (a - 2)
def ntL (a : Nat) : Int := if a = 0 then 57 else if a = 1 then 1641 else lawOrder (a - 2)
def ntD (a : Nat) : Dat := if a < 2 then sDe else sNu
def nvF (b : Nat) : Int := if b < 10 then 48 + (b : Int) else if b < 20 then 1632 + ((b : Int) - 10) else lawOrder (b - 20)
def nvD (b : Nat) : Dat := if b < 10 then dPair b 1 else if b < 20 then dPair ((b : Int) - 10) 1 else match sgn (lawOrder (b - 20)) with | some p => dPair p.1 p.2 | none => .none
def putAt (s : List Int × List Dat) (f l : Int) (dv : Dat) : List Int × List Dat := (putS s.1 f l (cntLE s.1 (f - 1)) (cntLE s.1 (l + 1)), putV s.2 dv (cntLE s.1 (f - 1)) (cntLE s.1 (l + 1)))
def ntB : Nat → List Int × List Dat
  | 0 => ([0], [.none])
  | a + 1 => putAt (ntB a) (ntF a) (ntL a) (ntD a)
def nvB : Nat → List Int × List Dat
  | 0 => ([0], [.none])
  | b + 1 => putAt (nvB b) (nvF b) (nvF b) (nvD b)
def isN : Dat → Bool
  | .none => true
  | _ => false
def unlikeB : Dat → Dat → Bool
  | .none, .str _ => true
  | .none, .tuple _ => true
  | .tuple [.int a, .int u], .tuple [.int b, .int v] => decide (u = 1) && decide (v = 1) && decide (a ≠ b)
  | _, _ => false
theorem isN_of {d : Dat} (h : isN d = true) : d = .none := by cases d <;> first | rfl | cases h
theorem unlike_of {d e : Dat} (h : unlikeB d e = true) : UnlikeD d e := by
  unfold unlikeB at h
  split at h
  · exact .ns _
  · exact .nt _
  · simp only [Bool.and_eq_true, decide_eq_true_eq] at h
    obtain ⟨⟨rfl, rfl⟩, h3⟩ := h
    exact .tt h3
  · cases h
def okC (s : List Int × List Dat) (f l : Int) (dv : Dat) : Bool :=
  decide (s.1.length = s.2.length) && decide (s.1.length < 100) && decide (s.1.Pairwise (· < ·)) && decide (0 ≤ f) && decide (f ≤ l) && decide (l < 100000) &&
  decide (0 < cntLE s.1 (f - 1)) && decide (0 < cntLE s.1 (l + 1)) && decide (cntLE s.1 (l + 1) ≤ s.1.length) &&
  (match s.2[cntLE s.1 (l + 1) - 1]? with | some d => isN d | none => false) && (match s.2[cntLE s.1 (f - 1) - 1]? with | some d => unlikeB d dv | none => false) && unlikeB .none dv
theorem okC_of {s : List Int × List Dat} {f l : Int} {dv : Dat} (h : okC s f l dv = true) : PutC s.1 s.2 f l dv (cntLE s.1 (f - 1)) (cntLE s.1 (l + 1)) := by
  unfold okC at h
  simp only [Bool.and_eq_true, decide_eq_true_eq] at h
  obtain ⟨⟨⟨⟨⟨⟨⟨⟨⟨⟨⟨h1, h2⟩, h3⟩, h4⟩, h5⟩, h6⟩, h7⟩, h8⟩, h9⟩, h10⟩, h11⟩, h12⟩ := h
  refine ⟨h1, h2, h3, h4, h5, h6, rfl, rfl, h7, h8, h9, ?_, ?_, unlike_of h12⟩
  · split at h10
    · rename_i d hd; rw [hd, isN_of h10]
    · cases h10
  · split at h11
    · rename_i d hd; exact ⟨d, hd, unlike_of h11⟩
    · cases h11
theorem nt_ok : ∀ a : Fin 10, okC (ntB a) (ntF a) (ntL a) (ntD a) = true := by decide +kernel
theorem nv_ok : ∀ b : Fin 28, okC (nvB b) (nvF b) (nvF b) (nvD b) = true := by decide +kernel
theorem nt_end : ntB 10 = (ntS, ntV) := by rfl
theorem nv_end : nvB 28 = (nvS, nvV) := by rfl
def PS (w : World) (x : Addr) (news : Led) (a b : Nat) (nx : Led) : Prop :=
  (a = 0 ∧ b = 0 ∧ P0 w x news nx) ∨ (0 < a ∧ b = 0 ∧ P1 w x news (ntB a).1 (ntB a).2 nx) ∨ (0 < a ∧ 0 < b ∧ P2 w x news (ntB a).1 (ntB a).2 (nvB b).1 (nvB b).2 nx)
theorem ps_put_nt (w : World) (x : Addr) (news nx tv ex : Led) (a b : Nat) (first last : Int) (tn tf tl : Tok) (v : Value)
    (hP : PS w x news a b nx) (ha : a < 10) (hab : a = 0 ∨ 0 < b) (hf : first = ntF a) (hl : last = ntL a) (hdv : DatIn tv v (ntD a)) (h1 : Apart tv nx) (h2 : Apart ex nx) (h3 : Apart ex tv) :
    Spec w 262 [.ref x, .str kNt tn, .int first tf, .int last tl, v] 7 (nx ++ (tv ++ ex)) (fun r y => r = .none ∧ ∃ nx', y = nx' ++ ex ∧ PS w x news (a + 1) b nx' ∧ Apart ex nx') := by
  subst hf
  subst hl
  have C := okC_of (nt_ok ⟨a, ha⟩)
  rcases hP with ⟨rfl, rfl, hP⟩ | ⟨g1, rfl, hP⟩ | ⟨g1, g2, hP⟩
  · exact (p0_put_nt w x news nx tv ex _ _ tn tf tl v _ _ _ hP hdv h1 h2 h3 C).mono fun r y ⟨e, nx', e2, q, z⟩ => ⟨e, nx', e2, .inr (.inl ⟨by omega, rfl, q⟩), z⟩
  · omega
  · exact (p2_put_nt w x news nx tv ex _ _ _ _ _ _ tn tf tl v _ _ _ hP hdv h1 h2 h3 C).mono fun r y ⟨e, nx', e2, q, z⟩ => ⟨e, nx', e2, .inr (.inr ⟨by omega, g2, q⟩), z⟩
theorem ps_put_nv (w : World) (x : Addr) (news nx tv ex : Led) (a b : Nat) (first last : Int) (tn tf tl : Tok) (v : Value)
    (hP : PS w x news a b nx) (ha : 0 < a) (hb : b < 28) (hf : first = nvF b) (hl : last = nvF b) (hdv : DatIn tv v (nvD b)) (h1 : Apart tv nx) (h2 : Apart ex nx) (h3 : Apart ex tv) :
    Spec w 262 [.ref x, .str kNv tn, .int first tf, .int last tl, v] 7 (nx ++ (tv ++ ex)) (fun r y => r = .none ∧ ∃ nx', y = nx' ++ ex ∧ PS w x news a (b + 1) nx' ∧ Apart ex nx') := by
  subst hf
  subst hl
  have C := okC_of (nv_ok ⟨b, hb⟩)
  rcases hP with ⟨rfl, rfl, hP⟩ | ⟨g1, rfl, hP⟩ | ⟨g1, g2, hP⟩
  · omega
  · exact (p1_put_nv w x news nx tv ex _ _ _ _ tn tf tl v _ _ _ hP hdv h1 h2 h3 C).mono fun r y ⟨e, nx', e2, q, z⟩ => ⟨e, nx', e2, .inr (.inr ⟨g1, by omega, q⟩), z⟩
  · exact (p2_put_nv w x news nx tv ex _ _ _ _ _ _ tn tf tl v _ _ _ hP hdv h1 h2 h3 C).mono fun r y ⟨e, nx', e2, q, z⟩ => ⟨e, nx', e2, .inr (.inr ⟨g1, by omega, q⟩), z⟩
theorem ps_isd {w : World} {x : Addr} {news nx : Led} (h : PS w x news 10 28 nx) : ∃ own, nx = own ++ news ∧ IsD w own x ∧ Apart own news := by
  rcases h with ⟨e, _⟩ | ⟨_, e, _⟩ | ⟨_, _, h⟩
  · cases e
  · cases e
  · rw [nt_end, nv_end] at h
    exact p2_isd h
theorem ds_obj {w : World} {R nx : Led} {x mp : Addr} (h : DS w R x mp) (s : ∀ p ∈ R, p ∈ nx) : ∃ (dx dd : Addr) (n : Nat) (h1 h2 h3 h4 : Int) (t1 t2 t3 t4 : Tok) (v3 v4 : Value), (x, instObj 279 dx) ∈ nx ∧ (dx, dataDict h1 h2 h3 h4 t1 t2 t3 t4 dd mp v3 v4 n) ∈ nx := by
  obtain ⟨dx, dd, n, h1, h2, h3, h4, t1, t2, t3, t4, v3, v4, od, kd, a, b, -⟩ := h
  exact ⟨dx, dd, n, h1, h2, h3, h4, t1, t2, t3, t4, v3, v4, s _ a, s _ b⟩
theorem ps_obj {w : World} {x : Addr} {news nx : Led} {a b : Nat} (h : PS w x news a b nx) : ∃ (mp dx dd : Addr) (n : Nat) (h1 h2 h3 h4 : Int) (t1 t2 t3 t4 : Tok) (v3 v4 : Value), (x, instObj 279 dx) ∈ nx ∧ (dx, dataDict h1 h2 h3 h4 t1 t2 t3 t4 dd mp v3 v4 n) ∈ nx := by
  rcases h with ⟨-, -, mp, om, R, rfl, hS, -⟩ | ⟨-, -, mp, om, r1, d1, D1, R, rfl, hS, -⟩ | ⟨-, -, mp, om, r1, d1, D1, r2, d2, D2, R, rfl, hS, -⟩
  · exact ⟨mp, ds_obj hS (by grind)⟩
  · exact ⟨mp, ds_obj hS (by grind)⟩
  · exact ⟨mp, ds_obj hS (by grind)⟩
theorem unit_m9_ldata : True := by
  w_top off
  trivial
/-! ## _law_data -/
section
local macro_rules | `(tactic| k_all) => `(tactic| first | assumption | exact fun p hp => Nat.ne_of_lt ((by assumption : ∀ p ∈ _, p.1 < _) p hp))
local macro_rules | `(tactic| k_mem) => `(tactic| kcf_m)
local macro_rules | `(tactic| walk_at "call ref") => `(tactic| (k_here; (with_reducible show wpAny _ _ (call (Value.ref 241) _ _) _ _ _); k_dflt (refine' Spec.use ?B ?F ?X ?N ?T ?K (defaults_c _ _) ?d ?u ?_; (case B => k_asm); (case F => k_asm); (case X => k_asm); (case N => k_asm); (case T => k_asm); (case K => first | exact rfl | assumption); (case d => ktr_room); (case u => first | ktr_units | (simp only [units_deeper, units_under_make]; (try dsimp only [ktrTop]); omega)); k_whole); (intro v' nx' h' tk' O' F' N'; (obtain ⟨D1, o1, kv1, e2, e1, l1, lo1, i1, ok1⟩ := O'); subst nx'; subst e2); ((try k_lt l1); (try k_sweep); (try dsimp only); (try k_fold))))
local macro_rules | `(tactic| walk_at "exec For Name Name cons nil") => `(tactic| (k_here; (refine' For_turns ?FF ?_ ?hs ?hE); (case FF => k_asm); (case hs => (intro _; rfl)); (case hE => passes_own); k_whole))
local macro_rules | `(tactic| walk_at "exec For Name Call cons nil") => `(tactic| (k_here; (refine' For_invVF ?FF ?k1 ?k2 ?_ ?hs ?hE); (case FF => k_asm); (case k1 => exact rfl); (case k2 => exact rfl); (case hs => (intro _; rfl)); (case hE => passes_own); k_whole))
local macro_rules | `(tactic| walk_at "pyIter ref") => `(tactic| (refine hold ?_))
local macro_rules | `(tactic| walk_at "call ref cons nil") => `(tactic| (k_here; (with_reducible show wpAny _ _ (call (Value.ref 262) _ _) _ _ _); refine hold ?_))
local macro_rules | `(tactic| walk_at "newTuple") => `(tactic| (k_here; k_dflt (refine' kup_newTuple ?F ?N ?_ ?z; (case F => k_asm); (case N => k_asm); (case z => (rw [sizeLine_eq]; exact Nat.le_of_ble_eq_true rfl))); intro D' h' F' N' l1; (try k_sweep)))
theorem nvF_at {i k : Nat} (hi : i < 2) (hk : k < 10) : ntF i + (0 + (k : Int)) = nvF (10 * i + k) := by
  rcases (by omega : i = 0 ∨ i = 1) with rfl | rfl
  · unfold nvF ntF; rw [if_pos rfl, if_pos (by omega)]; omega
  · unfold nvF ntF; rw [if_neg (by omega), if_pos rfl, if_neg (by omega), if_pos (by omega)]; omega
theorem nvD_at {i k : Nat} (hi : i < 2) (hk : k < 10) : nvD (10 * i + k) = dPair (k : Int) 1 := by
  rcases (by omega : i = 0 ∨ i = 1) with rfl | rfl
  · unfold nvD; rw [if_pos (by omega)]; congr 3; omega
  · unfold nvD; rw [if_neg (by omega), if_pos (by omega)]; congr 3; omega
theorem pair_dat {T : Addr} {a b c : Int} {t u : Tok} (h : a = c) : DatIn [(T, tup2 a t b u)] (.ref T) (dPair c b) := by
  subst h; exact .tuple (vs := [.int a t, .int b u]) (.head _) (.cons (.int _ _) (.cons (.int _ _) .nil))
theorem hd_split {h₀ h : Heap} {L T I2 I : Addr} {o oI2 oI : Obj} {nx3 : Led} {d : Dat} (N : News h₀ L h ((T, o) :: (I2, oI2) :: (nx3 ++ [(I, oI)]))) (lT : ∀ p ∈ (I2, oI2) :: (nx3 ++ [(I, oI)]), p.1 < T) (hd : DatIn [(T, o)] (.ref T) d) :
    ∃ tv : Led, DatIn tv (.ref T) d ∧ News h₀ L h (nx3 ++ (tv ++ [(I2, oI2), (I, oI)])) ∧ Apart tv nx3 ∧ Apart [(I2, oI2), (I, oI)] tv := by
  refine ⟨[(T, o)], hd, cb_drop N (by grind), ?_, ?_⟩
  · intro p hp q hq
    rw [List.mem_singleton.mp hp]
    exact Nat.ne_of_gt (lT q (by grind))
  · intro p hp q hq
    rw [List.mem_singleton.mp hq]
    exact Nat.ne_of_lt (lT p (by grind))
theorem de_in {i : Nat} {t : Tok} {R : Led} (h : i < 2) : DatIn R (.str (Str.ofString "de") t) (ntD i) := by unfold ntD; rw [if_pos h]; exact .str _ _
theorem apart1 {I : Addr} {oI : Obj} {nx : Led} (h : ∀ p ∈ nx, p.1 ≠ I) : Apart [(I, oI)] nx := by
  intro p hp q hq
  rw [List.mem_singleton.mp hp]
  exact (h q hq).symm
theorem apart2 {I I2 : Addr} {oI oI2 : Obj} {nx : Led} (h : ∀ p ∈ nx ++ [(I, oI)], p.1 ≠ I2) (h2 : Apart [(I, oI)] nx) : Apart [(I2, oI2), (I, oI)] nx := by
  intro p hp q hq
  rcases List.mem_cons.mp hp with rfl | hp
  · exact (h q (List.mem_append_left _ hq)).symm
  · exact h2 p hp q hq
theorem not_in2 {x y z : Str} (h : [x, y].contains z = false) : z ≠ x ∧ z ≠ y := by
  simp only [List.contains_cons, List.contains_nil, Bool.or_false, Bool.or_eq_false_iff, beq_eq_false_iff_ne] at h
  exact h
theorem keepR {x : Str} {v : Option Value} {u m : Str → Option Value} : ∀ z, [x].contains z = false → (if z = x then v else if ([] : List Str).contains z = true then u z else m z) = m z := by
  intro z hz
  have hx : z ≠ x := by intro e; subst e; simp at hz
  rw [if_neg hx, List.contains_nil, if_neg Bool.false_ne_true]
theorem keepO {x y : Str} {v : Option Value} {u u5 m : Str → Option Value} : ∀ z, [x, y].contains z = false → (if [y].contains z = true then u5 z else if z = x then v else if [x, y].contains z = true then u z else m z) = m z := by
  intro z hz
  obtain ⟨h1, h2⟩ := not_in2 hz
  have h3 : [y].contains z = false := by simp only [List.contains_cons, List.contains_nil, Bool.or_false, beq_eq_false_iff_ne]; exact h2
  rw [h3, if_neg Bool.false_ne_true, if_neg h1, hz, if_neg Bool.false_ne_true]
theorem off2 {I I2 : Addr} {oI oI2 : Obj} {nx nx3 : Led} (h : ∀ p ∈ nx3 ++ [(I, oI)], p.1 ≠ I2) (h2 : Apart [(I2, oI2), (I, oI)] nx) : ∀ p ∈ nx ++ [(I, oI)], p.1 ≠ I2 := by
  intro p hp
  rcases List.mem_append.mp hp with hp | hp
  · exact (h2 (I2, oI2) (.head _) p hp).symm
  · exact h p (List.mem_append_right _ hp)
theorem sg_split {h₀ h : Heap} {L T D J : Addr} {o oI : Obj} {tl nx2 : Led} {q : Int × Int} {u v : Tok} (N : News h₀ L h ((D, o) :: (tl ++ (nx2 ++ [(J, oI)])))) (lD : ∀ p ∈ nx2 ++ [(J, oI)], p.1 < D) (hm : (T, tup2 q.1 u q.2 v) ∈ (D, o) :: (tl ++ (nx2 ++ [(J, oI)]))) (g : @LT.lt Nat _ D T) :
    ∃ tv : Led, DatIn tv (.ref T) (dPair q.1 q.2) ∧ News h₀ L h (nx2 ++ (tv ++ [(J, oI)])) ∧ Apart tv nx2 ∧ Apart [(J, oI)] tv := by
  refine ⟨[(T, tup2 q.1 u q.2 v)], pair_dat rfl, cb_drop N ?_, ?_, ?_⟩
  · intro p hp
    rcases List.mem_append.mp hp with hp | hp
    · grind
    rcases List.mem_cons.mp hp with rfl | hp
    · exact hm
    · grind
  · intro p hp r hr
    rw [List.mem_singleton.mp hp]
    exact Nat.ne_of_gt (Nat.lt_trans (lD r (by grind)) g)
  · intro p hp r hr
    rw [List.mem_singleton.mp hr]
    exact Nat.ne_of_lt (Nat.lt_trans (lD p (by grind)) g)
theorem ntF_o {i : Nat} : lawOrder i = ntF (2 + i) := by
  unfold ntF; rw [if_neg (by omega), if_neg (by omega), Nat.add_sub_cancel_left]
theorem ntL_o {i : Nat} : lawOrder i = ntL (2 + i) := by
  unfold ntL; rw [if_neg (by omega), if_neg (by omega), Nat.add_sub_cancel_left]
theorem nvF_o {i : Nat} : lawOrder i = nvF (20 + i) := by
  unfold nvF; rw [if_neg (by omega), if_neg (by omega), Nat.add_sub_cancel_left]
theorem nvD_o {i : Nat} {p : Int × Int} (h : sgn (lawOrder i) = some p) : nvD (20 + i) = dPair p.1 p.2 := by
  unfold nvD; rw [if_neg (by omega), if_neg (by omega), Nat.add_sub_cancel_left, h]
theorem nu_in {i : Nat} {t : Tok} {R : Led} : DatIn R (.str (Str.ofString "nu") t) (ntD (2 + i)) := by unfold ntD; rw [if_neg (by omega)]; exact .str _ _
theorem sgn_o {i : Nat} (h : i < 8) : (sgn (lawOrder i)).isSome = true := by
  rcases (by omega : i = 0 ∨ i = 1 ∨ i = 2 ∨ i = 3 ∨ i = 4 ∨ i = 5 ∨ i = 6 ∨ i = 7) with rfl | rfl | rfl | rfl | rfl | rfl | rfl | rfl <;> rfl
section
local macro_rules | `(tactic| walk_at "subscriptTail Call Name ref int") => `(tactic| (k_here; k_dflt (refine' sg_item ?N ?S ?c ?_ ?s ?g; (case N => k_asm); (case S => walk_at "mine sg"); (case c => assumption); (case s => with_unfolding_all rfl); (case g => intro _; with_unfolding_all rfl); k_whole); intro p' T' u1' u2' q1' m1' g1'))
local macro_rules | `(tactic| walk_at "subscriptTail Name Name ref int") => `(tactic| (k_here; k_dflt (refine' sg_item ?N ?S ?c ?_ ?s ?g; (case N => k_asm); (case S => walk_at "mine sg"); (case c => assumption); (case s => with_unfolding_all rfl); (case g => intro _; with_unfolding_all rfl); k_whole); intro p' T' u1' u2' q1' m1' g1'))
theorem p0_start {w : World} {news : Led} {h₀ h : Heap} {L : Addr} {dW dP mp D1 x dx : Addr} {oW oP om od : Obj} {h1 h2 h3 h4 : Int} {t1 t2 t3 t4 : Tok} {v3 v4 : Value} {n : Nat} {kd : List (Str × Value)}
    (N : News h₀ L h ((dW, oW) :: (dP, oP) :: (mp, om) :: (D1, od) :: (x, instObj 279 dx) :: (dx, dataDict h1 h2 h3 h4 t1 t2 t3 t4 D1 mp v3 v4 n) :: news)) (i0 : om.IsDictOf (PySem.strKind PP w) []) (lo : (mp == sysModules) = false) (lod : (D1 == sysModules) = false) (i1 : od.IsDictOf (PySem.strKind PP w) kd) (ok : DefOk kd)
    (lX : ∀ p ∈ news, p.1 < dx) (l2 : @LT.lt Nat _ dx x) (lD : (@LT.lt Nat _ x D1) ∧ (@LT.lt Nat _ dx D1) ∧ AllLt D1 news) (lM : (@LT.lt Nat _ D1 mp) ∧ (@LT.lt Nat _ x mp) ∧ (@LT.lt Nat _ dx mp) ∧ AllLt mp news)
    (lP : (@LT.lt Nat _ mp dP) ∧ (@LT.lt Nat _ D1 dP) ∧ (@LT.lt Nat _ x dP) ∧ (@LT.lt Nat _ dx dP) ∧ AllLt dP news) (lW : (@LT.lt Nat _ dP dW) ∧ (@LT.lt Nat _ mp dW) ∧ (@LT.lt Nat _ D1 dW) ∧ (@LT.lt Nat _ x dW) ∧ (@LT.lt Nat _ dx dW) ∧ AllLt dW news) :
    ∃ nx, P0 w x news nx ∧ News h₀ L h nx := by
  have aD := ktn_ltOf lD.2.2
  have aM := ktn_ltOf lM.2.2.2
  have aP := ktn_ltOf lP.2.2.2.2
  have aW := ktn_ltOf lW.2.2.2.2.2
  refine ⟨(mp, om) :: ([(dW, oW), (dP, oP), (D1, od), (x, instObj 279 dx), (dx, dataDict h1 h2 h3 h4 t1 t2 t3 t4 D1 mp v3 v4 n)] ++ news), ⟨mp, om, _, rfl, ⟨dx, D1, n, h1, h2, h3, h4, t1, t2, t3, t4, v3, v4, od, kd, by simp, by simp, by simp, lod, i1, ok.1, ok.2⟩, lo, i0, ?_, ?_⟩, cb_drop N (by grind)⟩
  · intro p hp
    simp only [List.cons_append, List.nil_append, List.mem_cons] at hp
    rcases hp with rfl | rfl | rfl | rfl | rfl | hp
    · exact Nat.ne_of_gt lW.2.1
    · exact Nat.ne_of_gt lP.1
    · exact Nat.ne_of_lt lM.1
    · exact Nat.ne_of_lt lM.2.1
    · exact Nat.ne_of_lt lM.2.2.1
    · exact Nat.ne_of_lt (aM p hp)
  · intro p hp q hq
    simp only [List.mem_cons, List.not_mem_nil, or_false] at hp
    rcases hp with rfl | rfl | rfl | rfl | rfl
    · exact Nat.ne_of_gt (aW q hq)
    · exact Nat.ne_of_gt (aP q hq)
    · exact Nat.ne_of_gt (aD q hq)
    · exact Nat.ne_of_gt (Nat.lt_trans (lX q hq) l2)
    · exact Nat.ne_of_gt (lX q hq)
theorem law_data_c (w : World) (news : Led) :
    Spec w 306 [] 9 news (fun v nx => ∃ x own, v = .ref x ∧ nx = own ++ news ∧ IsD w own x ∧ Apart own news) := by
  intro mean mg mb dp un gd cn cs a ccd cl0 outer A₀ base h₀ L m s Q E B F X N T hk hdp0 hun9 ret
  refine wpAny_call ?_
  k_dflt ktr_enter
  rename Fr _ _ _ _ => F0
  have F1 : Fr _ _ _ (fun y => List.lookup y ([] : List (Str × Value))) := F0
  clear F0
  k_steps
  unfold Hold
  rename News _ _ _ _ => nN
  rename Fr _ _ _ _ => nF
  obtain ⟨nx0, hP0, nN0⟩ := p0_start nN (by assumption) (by assumption) (by assumption) (by assumption) (by assumption) (by assumption) (by assumption) (by assumption) (by assumption) (by assumption) (by assumption)
  clear nN
  k_dflt (refine' iter_tupK ?yh1 ?yF1 ?yN1 ?yX1 ?yk1 ?yc1 ?yd1 ?yz1 ?_)
  (case yh1 => with_unfolding_all rfl)
  (case yF1 => exact nF)
  (case yN1 => exact nN0)
  (case yX1 => k_asm)
  (case yk1 => k_is)
  (case yc1 => exact rfl)
  (case yd1 => exact rfl)
  (case yz1 => decide)
  k_whole
  intro I hI
  refine items_inv (keep := []) _ [Str.ofString "zero", Str.ofString "number"] (fun i nx => PS w _ news i (10 * i) nx) (fun _ _ _ => trivial) ?_ ?_ _ 0 _ _ rfl rfl (.inl ⟨rfl, rfl, hP0⟩) (fun p hp => Nat.ne_of_lt (hI p hp)) (fun _ _ => rfl)
  · rintro i a9 v9 u h tk oI nx ha hav hG hI2 F2 N2
    clear nF nN0 hP0 hI
    have hi9 : i < 2 := (List.getElem?_eq_some_iff.mp ha).1
    have hv : ∃ t, v9 = Value.int (ntF i) t := by
      rcases (by omega : i = 0 ∨ i = 1) with rfl | rfl
      · cases ha; exact ⟨_, hav⟩
      · cases ha; exact ⟨_, hav⟩
    obtain ⟨t9, rfl⟩ := hv
    obtain ⟨mp, dx, dd, n1, h1, h2, h3, h4, t1, t2, t3, t4, v3, v4, hx1, hx2⟩ := ps_obj hG
    (try k_unmd); (try k_fold)
    k_steps
    unfold Hold
    rename Fr _ _ _ _ => nF
    rename News _ _ _ _ => nN
    k_dflt (refine' Spec.use ?zB1 nF ?zX1 (cb_drop nN ?zp1) ?zT1 ?zK1 (ps_put_nt w _ news nx [] [(I, oI)] i (10 * i) _ _ _ _ _ _ hG (by omega) (by omega) rfl ?zl1 (de_in hi9) (fun _ h => nomatch h) (apart1 hI2) (fun _ _ _ h => nomatch h)) ?zd1 ?zu1 ?_)
    (case zB1 => k_asm)
    (case zX1 => k_asm)
    (case zp1 => grind)
    (case zT1 => k_asm)
    (case zK1 => first | exact rfl | assumption)
    (case zl1 => rcases (by omega : i = 0 ∨ i = 1) with rfl | rfl <;> rfl)
    (case zd1 => ktr_room)
    (case zu1 => ktr_units)
    k_whole
    rintro v9 y9 h9 tk9 ⟨rfl, nx2, rfl, hG2, hA2⟩ F3 N3
    clear nF nN
    k_steps
    unfold Hold
    rename Fr _ _ _ _ => nF
    rename News _ _ _ _ => nN
    k_dflt (refine iter_rangeUnr (n := 10) (by rfl) (by assumption) (by decide) (by decide) nF (cb_drop nN (news := nx2 ++ [(I, oI)]) (by grind)) (fun I2 hI5 => ?_))
    refine range_inv [] (fun k z => ∃ nx3, z = nx3 ++ [(I, oI)] ∧ PS w _ news (i + 1) (10 * i + k) nx3 ∧ Apart [(I, oI)] nx3) ?_ ?_ 10 0 _ _ rfl ⟨nx2, rfl, hG2, hA2⟩ (fun p hp => Nat.ne_of_lt (hI5 p hp)) (fun _ _ => rfl)
    · rintro k t2 u2 h10 tk10 oI2 z hk9 ⟨nx3, rfl, hG3, hA3⟩ hI3 F4 N4
      clear nF nN hI5 hG2 hA2 hx1 hx2
      obtain ⟨mp, dx, dd, n1, h1, h2, h3, h4, t1, t2, t3, t4, v3, v4, hx1, hx2⟩ := ps_obj hG3
      have hx3 := List.mem_append_left [(I, oI)] hx1
      have hx4 := List.mem_append_left [(I, oI)] hx2
      (try k_unmd); (try k_fold)
      k_steps
      unfold Hold
      rename Fr _ _ _ _ => nF
      rename News _ _ _ _ => nN
      rename ∀ p ∈ (_ : Led), p.1 < _ => lT
      obtain ⟨tv, hdv, N5, ap1, ap2⟩ := hd_split nN lT (d := nvD (10 * i + k)) (by rw [nvD_at hi9 hk9]; exact pair_dat (Int.zero_add _))
      k_dflt (refine' Spec.use ?zB2 nF ?zX2 N5 ?zT2 ?zK2 (ps_put_nv w _ news nx3 tv [(I2, oI2), (I, oI)] (i + 1) (10 * i + k) _ _ _ _ _ _ hG3 (by omega) (by omega) (nvF_at hi9 hk9) (nvF_at hi9 hk9) hdv ap1 (apart2 hI3 hA3) ap2) ?zd2 ?zu2 ?_)
      (case zB2 => k_asm)
      (case zX2 => k_asm)
      (case zT2 => k_asm)
      (case zK2 => first | exact rfl | assumption)
      (case zd2 => ktr_room)
      (case zu2 => ktr_units)
      k_whole
      rintro v8 y8 h8 tk8 ⟨rfl, nx4, rfl, hG4, hA4⟩ F5 N6
      clear nF nN N5
      k_steps
      unfold Hold
      exact foend (nx4 ++ [(I, oI)]) (by assumption) (cb_drop N6 (by grind)) (off2 hI3 hA4) keepR ⟨nx4, rfl, hG4, fun p hp q hq => hA4 p (.tail _ hp) q hq⟩
    · rintro u5 h5 tk5 z ⟨nx5, rfl, hG5, hA5⟩ F6 N6
      clear nF nN
      (try k_unmd); (try k_fold)
      k_steps
      unfold Hold
      refine foend nx5 (by assumption) (cb_drop N6 (by grind)) (fun p hp => (hA5 (I, oI) (.head _) p hp).symm) keepO hG5
  · rintro u h tk nx hG F2 N2
    replace hG : PS w _ news 2 20 nx := hG
    clear nF nN0 hP0 hI
    (try k_unmd); (try k_fold)
    k_steps
    unfold Hold
    rename News _ _ _ _ => nN
    rename Fr _ _ _ _ => nF
    k_dflt (refine' iter_tupK ?yh2 ?yF2 ?yN2 ?yX2 ?yk2 ?yc2 ?yd2 ?yz2 ?_)
    (case yh2 => with_unfolding_all rfl)
    (case yF2 => exact nF)
    (case yN2 => exact nN)
    (case yX2 => k_asm)
    (case yk2 => k_is)
    (case yc2 => exact rfl)
    (case yd2 => exact rfl)
    (case yz2 => decide)
    k_whole
    intro J hJ
    refine items_inv (keep := []) _ [Str.ofString "code"] (fun i nx => PS w _ news (2 + i) (20 + i) nx) (fun _ _ _ => trivial) ?_ ?_ _ 0 _ _ rfl rfl hG (fun p hp => Nat.ne_of_lt (hJ p hp)) (fun _ _ => rfl)
    · rintro i a9 v9 u7 h tk oI nx ha hav hG hI2 F2 N2
      clear nF nN hJ
      have hi9 : i < 8 := (List.getElem?_eq_some_iff.mp ha).1
      have hv : ∃ t, v9 = Value.int (lawOrder i) t := by
        rcases (by omega : i = 0 ∨ i = 1 ∨ i = 2 ∨ i = 3 ∨ i = 4 ∨ i = 5 ∨ i = 6 ∨ i = 7) with rfl | rfl | rfl | rfl | rfl | rfl | rfl | rfl
        all_goals (cases ha; exact ⟨_, hav⟩)
      obtain ⟨t9, rfl⟩ := hv
      have hsg := sgn_o hi9
      obtain ⟨mp, dx, dd, n1, h1, h2, h3, h4, t1, t2, t3, t4, v3, v4, hx1, hx2⟩ := ps_obj hG
      (try k_unmd); (try k_fold)
      k_steps
      unfold Hold
      rename Fr _ _ _ _ => nF
      rename News _ _ _ _ => nN
      k_dflt (refine' Spec.use ?zB3 nF ?zX3 (cb_drop nN ?zp3) ?zT3 ?zK3 (ps_put_nt w _ news nx [] [(J, oI)] (2 + i) (20 + i) _ _ _ _ _ _ hG (by omega) (by omega) ntF_o ntL_o nu_in (fun _ h => nomatch h) (apart1 hI2) (fun _ _ _ h => nomatch h)) ?zd3 ?zu3 ?_)
      (case zB3 => k_asm)
      (case zX3 => k_asm)
      (case zp3 => grind)
      (case zT3 => k_asm)
      (case zK3 => first | exact rfl | assumption)
      (case zd3 => ktr_room)
      (case zu3 => ktr_units)
      k_whole
      rintro v9 y9 h9 tk9 ⟨rfl, nx2, rfl, hG2, hA2⟩ F3 N3
      clear nF nN hx1 hx2
      obtain ⟨mp, dx, dd, n1, h1, h2, h3, h4, t1, t2, t3, t4, v3, v4, hx1, hx2⟩ := ps_obj hG2
      have hx3 := List.mem_append_left [(J, oI)] hx1
      have hx4 := List.mem_append_left [(J, oI)] hx2
      k_steps
      unfold Hold
      rename Fr _ _ _ _ => nF
      rename News _ _ _ (_ :: (_ ++ _)) => nN
      rename sgn _ = some _ => q1
      rename ∀ p ∈ nx2 ++ _, p.1 < _ => lD
      rename (_, tup2 _ _ _ _) ∈ _ => m1
      rename @LT.lt Nat _ _ _ => g1
      obtain ⟨tv, hdv, N5, ap1, ap2⟩ := sg_split nN lD m1 g1
      rw [← nvD_o q1] at hdv
      k_dflt (refine' Spec.use ?zB4 nF ?zX4 N5 ?zT4 ?zK4 (ps_put_nv w _ news nx2 tv [(J, oI)] (2 + i + 1) (20 + i) _ _ _ _ _ _ hG2 (by omega) (by omega) nvF_o nvF_o hdv ap1 hA2 ap2) ?zd4 ?zu4 ?_)
      (case zB4 => k_asm)
      (case zX4 => k_asm)
      (case zT4 => k_asm)
      (case zK4 => first | exact rfl | assumption)
      (case zd4 => ktr_room)
      (case zu4 => ktr_units)
      k_whole
      rintro v8 y8 h8 tk8 ⟨rfl, nx4, rfl, hG4, hA4⟩ F5 N6
      clear nF nN N5
      k_steps
      unfold Hold
      exact foend nx4 (by assumption) (cb_drop N6 (by grind)) (fun p hp => (hA4 (J, oI) (.head _) p hp).symm) keep1 hG4
    · rintro u7 h tk nx hG F2 N2
      clear nF nN hJ
      obtain ⟨own, rfl, hD, hap⟩ := ps_isd hG
      (try k_unmd); (try k_fold)
      k_steps
      exact ret _ _ _ _ ⟨_, own, rfl, rfl, hD, hap⟩ (by assumption) (by assumption)
end
local macro_rules | `(tactic| walk_at "mine pad127") => `(tactic| skip)
local macro_rules | `(tactic| walk_at "mine pad128") => `(tactic| skip)
local macro_rules | `(tactic| walk_at "mine pad129") => `(tactic| skip)
end
local macro_rules | `(tactic| walk_at "mine pad130") => `(tactic| skip)
local macro_rules | `(tactic| walk_at "mine pad131") => `(tactic| skip)
local macro_rules | `(tactic| walk_at "mine pad132") => `(tactic| skip)
local macro_rules | `(tactic| walk_at "mine pad133") => `(tactic| skip)
local macro_rules | `(tactic| walk_at "mine pad134") => `(tactic| skip)
local macro_rules | `(tactic| walk_at "mine pad135") => `(tactic| skip)
local macro_rules | `(tactic| walk_at "mine pad136") => `(tactic| skip)
local macro_rules | `(tactic| walk_at "mine pad137") => `(tactic| skip)
local macro_rules | `(tactic| walk_at "mine pad138") => `(tactic| skip)
local macro_rules | `(tactic| walk_at "mine pad139") => `(tactic| skip)
local macro_rules | `(tactic| walk_at "mine pad140") => `(tactic| skip)
local macro_rules | `(tactic| walk_at "mine pad141") => `(tactic| skip)
--@M
local macro_rules | `(tactic| walk_at "call ref") => `(tactic| (k_here; (with_reducible show wpAny _ _ (call (Value.ref 306) _ _) _ _ _); k_dflt (refine' Spec.use ?B ?F ?X ?N ?T ?K (law_data_c _ _) ?d ?u ?_; (case B => k_asm); (case F => k_asm); (case X => k_asm); (case N => k_asm); (case T => k_asm); (case K => first | exact rfl | assumption); (case d => ktr_room); (case u => ktr_units); k_whole); (intro v' nx' h' tk' O' F' N'; (obtain ⟨x1, own1, e2, e1, d1, a1⟩ := O'); subst nx'; subst e2); ((try k_sweep); (try dsimp only); (try k_fold))))
--@E
theorem unit_n0_comp : True := by
  w_top off
  trivial
--@nofill
/-! ## a comprehension whose turns turn the ledger -/
section
variable {prog : Program} {w : World} {A : Around} {h₀ : Heap} {L : Addr} {m : Str → Option Value} {env : Env} {elt : PySem.Expr} {x : Str} {scope : Scope} {cl : List (Str × Addr)} {s : Shared} {S : Led → Prop} {Fin : List Value → Led → Prop} {P : Nat → Value → Prop}
theorem comp_state {n : Nat} {news : Led} (Inv : Nat → List Value → Led → Prop)
    (turn : ∀ i ys cur v I oI C oC D m₂ h tk (E' : Value → Shared → Prop), i < n → Inv i ys cur → P i v → LCg.NsObj oC m₂ → m₂ x = some v → Fr h₀ L h m → News h₀ L h ((I, oI) :: (C, oC) :: (D, LCg.lst ys) :: cur) → LCg.Off3 I C D cur → ((@Ne Nat I C) ∧ (@Ne Nat I D) ∧ (@Ne Nat C D)) →
      wpAny (model prog w) A (eval elt (compEnvC scope cl C env)) (LCg.CompEnd h₀ L m { s with heap := h, toks := tk } I oI C oC D (LCg.lst ys) S (fun y news' => Inv (i + 1) (ys ++ [y]) news')) E' { s with heap := h, toks := tk })
    (fin : ∀ ys cur, Inv n ys cur → Fin ys cur) (start : Inv 0 [] news) : LCg.CompRest prog w A h₀ L m env elt x scope cl s S P Fin n 0 [] news := by
  have key : ∀ (j i : Nat) (ys : List Value) (cur : Led), i + j = n → Inv i ys cur → LCg.CompRest prog w A h₀ L m env elt x scope cl s S P Fin j i ys cur := by
    intro j
    induction j with
    | zero =>
      intro i ys cur hi hv
      have e : i = n := by omega
      subst e
      exact LCg.CompRest.zero (fin ys cur hv)
    | succ j ih =>
      intro i ys cur hi hv
      refine LCg.CompRest.succ ?_
      intro v I oI C oC D m₂ h tk E' hP hC hx F N off ne
      refine wpAny_mono (turn i ys cur v I oI C oC D m₂ h tk E' (by omega) hv hP hC hx F N off ne) (fun y s₂ hq => ?_) fun _ _ e => e
      obtain ⟨h', tk', nw, e, F', N', off', hS', hn⟩ := hq
      exact ⟨h', tk', nw, e, F', N', off', hS', ih (i + 1) _ _ (by omega) hn⟩
  exact key n 0 [] news (by omega) start
end
theorem off1_mem {D : Addr} : ∀ {l : Led}, LCg.Off1 D l → ∀ p ∈ l, @Ne Nat p.1 D
  | [], _, _, h => nomatch h
  | _ :: _, x, p, h => by
    rcases List.mem_cons.mp h with rfl | h
    · exact x.1
    · exact off1_mem x.2 p h
/-- the ledger of the law's body once the text is made: the cell of end, the rest -/
theorem law_pack {w : World} {h₀ h : Heap} {L wx tx rw D3 c2 c1 x : Addr} {orow oc o2 o1 : Obj} {us : List Value} {zs : List Int} {n1 n2 : Nat} {dL : Led}
    (N : News h₀ L h ((wx, listOf us.toArray n1) :: (tx, listOf us.toArray n2) :: (rw, orow) :: (D3, oc) :: (c2, o2) :: (c1, o1) :: dL)) (hz : IntsAre us zs) (hD : IsD w dL x)
    (off : @Ne Nat c2 tx) (lw : @LT.lt Nat _ c2 wx) (f3 : ∀ p ∈ dL, p.1 ≠ c2) :
    ∃ R0 : Led, News h₀ L h ((c2, o2) :: R0) ∧ TL R0 tx zs ∧ TL R0 wx zs ∧ IsD w R0 x ∧ ∀ p ∈ R0, p.1 ≠ c2 := by
  refine ⟨(wx, listOf us.toArray n1) :: (tx, listOf us.toArray n2) :: dL, cb_drop N (by grind), ⟨us, n2, by simp, hz⟩, ⟨us, n1, by simp, hz⟩, hD.mono (by grind), ?_⟩
  intro p hp
  rcases List.mem_cons.mp hp with rfl | hp
  · exact Nat.ne_of_gt lw
  rcases List.mem_cons.mp hp with rfl | hp
  · exact Ne.symm off
  · exact f3 p hp
def isSeqO (o : Obj) : Bool := match o.data with
  | .seq _ _ => true
  | _ => false
mutual
theorem din_seq {news news' : Led} (hs : ∀ p ∈ news, isSeqO p.2 = true → p ∈ news') : ∀ {v : Value} {d : Dat}, DatIn news v d → DatIn news' v d
  | _, _, .none => .none
  | _, _, .bool b => .bool b
  | _, _, .int i t => .int i t
  | _, _, .str x t => .str x t
  | _, _, .bytes b t => .bytes b t
  | _, _, .tuple h r => .tuple (hs _ h rfl) (dall_seq hs r)
  | _, _, .list h r => .list (hs _ h rfl) (dall_seq hs r)
theorem dall_seq {news news' : Led} (hs : ∀ p ∈ news, isSeqO p.2 = true → p ∈ news') : ∀ {vs : List Value} {ds : List Dat}, DatAll news vs ds → DatAll news' vs ds
  | _, _, .nil => .nil
  | _, _, .cons a r => .cons (din_seq hs a) (dall_seq hs r)
end
theorem led_pack {h₀ h : Heap} {L c2 : Addr} {w1 : Obj} {v : Option Value} {cur R0 : Led} (N : News h₀ L h cur) (hc : (c2, w1) ∈ cur) (hw : w1.data = .cell v) (hR : ∀ p ∈ R0, p ∈ cur) (hc0 : ∀ p ∈ R0, p.1 ≠ c2) :
    ∃ R1 : Led, News h₀ L h ((c2, w1) :: R1) ∧ (∀ p ∈ R0, p ∈ R1) ∧ (∀ p ∈ cur, isSeqO p.2 = true → p ∈ R1) ∧ ∀ p ∈ R1, p.1 ≠ c2 := by
  refine ⟨cur.filter (fun p => isSeqO p.2) ++ R0, ?_, fun p hp => List.mem_append_right _ hp, fun p hp hs => List.mem_append_left _ (List.mem_filter.mpr ⟨hp, hs⟩), ?_⟩
  · refine cb_drop N ?_
    intro p hp
    rcases List.mem_cons.mp hp with rfl | hp
    · exact hc
    rcases List.mem_append.mp hp with hp | hp
    · exact (List.mem_filter.mp hp).1
    · exact hR p hp
  · intro p hp e
    rcases List.mem_append.mp hp with hp | hp
    · obtain ⟨h1, h2⟩ := List.mem_filter.mp hp
      have a := (N p h1).1
      have b := (N _ hc).1
      rw [e] at a
      have := Option.some.inj (a.symm.trans b)
      rw [this] at h2
      unfold isSeqO at h2
      rw [hw] at h2
      cases h2
    · exact hc0 p hp e
theorem led_pack2 {h₀ h : Heap} {L c2 : Addr} {w1 : Obj} {v : Option Value} {t0 d a b : Addr × Obj} {own tl1 tl2 R0 : Led} (N : News h₀ L h (t0 :: d :: (own ++ (a :: (tl1 ++ (b :: (tl2 ++ (c2, w1) :: R0))))))) (hw : w1.data = .cell v) (hc0 : ∀ p ∈ R0, p.1 ≠ c2) :
    ∃ R1 : Led, News h₀ L h ((c2, w1) :: R1) ∧ (∀ p ∈ R0, p ∈ R1) ∧ (∀ p ∈ d :: (own ++ (a :: (tl1 ++ (b :: (tl2 ++ (c2, w1) :: R0))))), isSeqO p.2 = true → p ∈ R1) ∧ ∀ p ∈ R1, p.1 ≠ c2 := by
  obtain ⟨R1, a1, a2, a3, a4⟩ := led_pack N (by simp) hw (fun p hp => by simp [hp]) hc0
  exact ⟨R1, a1, a2, fun p hp hs => a3 p (.tail _ hp) hs, a4⟩
theorem items_dat {α : Type} {R : Led} {ys : List Value} {qs : List α} {f : α → Dat} (h : DatAll R ys (qs.map f)) {i : Nat} {a : Itm} {v : Value} {g : Heap} (ha : (ys.map Itm.val)[i]? = some a) (hav : a.Is v g) : ∃ q, qs[i]? = some q ∧ DatIn R v (f q) := by
  rw [List.getElem?_map, Option.map_eq_some_iff] at ha
  obtain ⟨v', h1, rfl⟩ := ha
  have e : v = v' := hav
  subst e
  have := (dat_rel h).2 i v (by simpa using h1)
  exact this
/-- what a number told says -/
def QOk (zs : List Int) (q : NumT) : Prop := 0 ≤ q.1 ∧ q.1 < q.2.1 ∧ q.2.1 ≤ (zs.length : Int) ∧ q.2.1 = q.1 + (numLen (zs.drop q.1.toNat) : Nat) ∧ q.2.2 = fracV ((zs.drop q.1.toNat).take (numLen (zs.drop q.1.toNat)))
theorem nums_ok_aux (zs : List Int) : ∀ (n : Nat) (k : Nat), (zs.drop k).length ≤ n → ∀ q ∈ nums (k : Int) (zs.drop k), QOk zs q := by
  intro n
  induction n with
  | zero =>
    intro k hk q hq
    have : zs.drop k = [] := List.eq_nil_of_length_eq_zero (by omega)
    rw [this, nums_nil] at hq; cases hq
  | succ n ih =>
    intro k hk q hq
    by_cases h0 : 0 < (zs.drop k).length
    · have hl := h0
      rw [List.length_drop] at hl
      by_cases hn : 0 < numLen (zs.drop k)
      · rw [nums_yes h0 hn] at hq
        have hp := runLen_pre (s := zs.drop k)
        rw [List.length_drop] at hp
        rcases List.mem_cons.mp hq with rfl | hq
        · refine ⟨by dsimp only; omega, by dsimp only; omega, by dsimp only; omega, ?_, ?_⟩
          · dsimp only; rw [Int.toNat_natCast]
          · dsimp only; rw [Int.toNat_natCast]
        · rw [List.drop_drop, show (k : Int) + (numLen (zs.drop k) : Nat) = ((k + numLen (zs.drop k) : Nat) : Int) by omega] at hq
          exact ih _ (by rw [List.length_drop] at hk ⊢; omega) q hq
      · rw [nums_no h0 (by omega), List.drop_drop, show (k : Int) + 1 = ((k + 1 : Nat) : Int) by omega] at hq
        exact ih _ (by rw [List.length_drop] at hk ⊢; omega) q hq
    · have : zs.drop k = [] := List.eq_nil_of_length_eq_zero (by omega)
      rw [this, nums_nil] at hq; cases hq
theorem nums_ok {zs : List Int} {i : Nat} {q : NumT} (h : (nums 0 zs)[i]? = some q) : QOk zs q := nums_ok_aux zs _ 0 (Nat.le_refl _) q (by simpa using List.mem_of_getElem? h)
abbrev pieceOf (zs : List Int) (b e : Int) : List Int := (zs.drop b.toNat).take (e.toNat - b.toNat)
theorem nums_one {P : List Int} (h0 : 0 < P.length) (h : numLen P = P.length) : nums 0 P = [(0, (P.length : Int), fracV P)] := by
  rw [nums_yes h0 (by omega), h, List.take_length, List.drop_length, nums_nil, Int.zero_add]
theorem piece_ok {zs : List Int} {b e : Int} {v : Int × Int} (h : QOk zs (b, e, v)) : v = fracV (pieceOf zs b e) ∧ 0 < (pieceOf zs b e).length ∧ numLen (pieceOf zs b e) = (pieceOf zs b e).length ∧ nums 0 (pieceOf zs b e) = [(0, e - b, fracV (pieceOf zs b e))] := by
  obtain ⟨h1, h2, h3, h4, h5⟩ := h
  dsimp only at h1 h2 h3 h4 h5
  have hk : e.toNat - b.toNat = numLen (zs.drop b.toNat) := by omega
  have hp := runLen_pre (s := zs.drop b.toNat)
  have hl : (pieceOf zs b e).length = numLen (zs.drop b.toNat) := by
    unfold pieceOf; rw [hk, List.length_take]; omega
  have hn : numLen (pieceOf zs b e) = (pieceOf zs b e).length := by
    unfold pieceOf; rw [hk]; exact piece_len _
  have h0 : 0 < (pieceOf zs b e).length := by omega
  refine ⟨by unfold pieceOf; rw [hk]; exact h5, h0, hn, ?_⟩
  rw [nums_one h0 hn, hl]
  congr 3
  omega
theorem dat_ne {prog : Program} {w : World} {A : Around} {E : Value → Shared → Prop} {s : Shared} {h₀ : Heap} {L : Addr} {cur : Led} {x y : Value} {d : Dat} {Q : Value → Shared → Prop}
    (N : News h₀ L s.heap cur) (Dx : DatIn cur x d) (Dy : DatIn cur y d) (hd : kqdOk 8 d = true) (hu : A.units + 64 < cLine) (h : Q (.bool false) s) : wpAny (model prog w) A (compareOp .NotEq x y) Q E s := by
  obtain ⟨as, ra⟩ := kqd_in N 8 Dx hd
  obtain ⟨bs, rb⟩ := kqd_in N 8 Dy hd
  have l := kqd_lay 8 d hd
  have e : PyData.eqv (kqdP d) (kqdP d) = true := (kqd_eqv 8 d d 8 hd hd).mpr rfl
  refine ne_dataH ra rb ?_ ?_ hu (by rw [e]; exact h)
  · unfold SeqAt.shaped; rw [l.1, Bool.true_and]; exact decide_eq_true (Nat.le_trans l.2 (by decide))
  · unfold SeqAt.shaped; rw [l.1, Bool.true_and]; exact decide_eq_true (Nat.le_trans l.2 (by decide))
theorem num_ok (q : NumT) : kqdOk 8 (numD q) = true := rfl
theorem nums_dat_ok (qs : List NumT) : kqdOk 8 (.list (qs.map numD)) = true := by
  simp only [kqdOk, List.all_eq_true, List.mem_map]
  rintro d ⟨q, _, rfl⟩
  rfl
theorem alone_ne {prog : Program} {w : World} {A : Around} {E : Value → Shared → Prop} {s : Shared} {h₀ : Heap} {L l' D' D1 T2 : Addr} {e : Int} {v : Int × Int} {t0 t1 : Tok} {ys : List Value} {k : Nat} {rest R1 : Led} {Q : Value → Shared → Prop}
    (N : News h₀ L s.heap ((l', listOf #[Value.ref D'] 0) :: (D', { cls := .type "tuple", data := .seq #[Value.int 0 t0, Value.int e t1, Value.ref T2] }) :: (D1, listOf ys.toArray k) :: rest)) (hd1 : DatAll rest ys ([((0 : Int), e, v)].map numD)) (hT : DatIn R1 (.ref T2) (dPair v.1 v.2)) (hs : ∀ p ∈ R1, p ∈ rest)
    (hu : A.units + 64 < cLine) (h : Q (.bool false) s) : wpAny (model prog w) A (compareOp .NotEq (.ref D1) (.ref l')) Q E s := by
  refine dat_ne N (d := .list ([((0 : Int), e, v)].map numD)) (.list (.tail _ (.tail _ (.head _))) (hd1.mono fun p hp => .tail _ (.tail _ (.tail _ hp)))) (.list (vs := [Value.ref D']) (.head _) (.cons (.tuple (vs := [Value.int 0 t0, Value.int e t1, Value.ref T2]) (.tail _ (.head _)) (.cons (.int _ _) (.cons (.int _ _) (.cons (hT.mono fun p hp => .tail _ (.tail _ (.tail _ (hs p hp)))) .nil)))) .nil)) (nums_dat_ok _) hu h
theorem perm_d {α : Type} {a b c d x y z : α} {own tl R : List α} : ∀ p ∈ x :: y :: z :: R, p ∈ a :: b :: c :: (own ++ (d :: (tl ++ (x :: y :: z :: R)))) := by
  intro p hp; simp only [List.mem_cons, List.mem_append] at hp ⊢; rcases hp with h | h | h | h <;> simp [h]
theorem sub_d {α : Type} {d x y z : α} {own tl R : List α} : ∀ p ∈ R, p ∈ own ++ (d :: (tl ++ (x :: y :: z :: R))) := by
  intro p hp; simp [hp]
theorem sub_e {α : Type} {a b c d : α} {R : List α} : ∀ p ∈ R, p ∈ a :: b :: c :: d :: R := by
  intro p hp; simp [hp]
def shiftN (e : Int) (r : NumT) : NumT := (e + r.1, e + r.2.1, r.2.2)
section
variable {prog : Program} {w : World} {A : Around} {h₀ : Heap} {L : Addr} {m : Str → Option Value} {env : Env} {ct elt : PySem.Expr} {x : Str} {scope : Scope} {cl : List (Str × Addr)} {s : Shared} {S : Led → Prop} {Fin : List Value → Led → Prop}
theorem comp_filt {α : Type} {as : List α} {base : Led} {its : Array Value} (Rel : α → Value → Prop) (B : α → Bool) (f : α → Dat) (hsz : its.size = as.length) (hrel : ∀ (i : Nat) v, its[i]? = some v → ∃ a, as[i]? = some a ∧ Rel a v)
    (turn : ∀ a v ys I oI C oC D m₂ h tk (E' : Value → Shared → Prop), a ∈ as → Rel a v → LCg.NsObj oC m₂ → m₂ x = some v → Fr h₀ L h m → News h₀ L h ((I, oI) :: (C, oC) :: (D, LCg.lst ys) :: base) → LCg.Off3 I C D base → ((@Ne Nat I C) ∧ (@Ne Nat I D) ∧ (@Ne Nat C D)) →
      wpAny (model prog w) A (isTrue ct (compEnvC scope cl C env) (eval ct (compEnvC scope cl C env))) (fun ok s' => if ok = true then wpAny (model prog w) A (eval elt (compEnvC scope cl C env)) (LCg.CompEnd h₀ L m { s with heap := h, toks := tk } I oI C oC D (LCg.lst ys) S (fun y news' => news' = base ∧ B a = true ∧ DatIn base y (f a))) E' s'
        else LCg.CompEnd h₀ L m { s with heap := h, toks := tk } I oI C oC D (LCg.lst ys) S (fun _ news' => news' = base ∧ B a = false) Value.none s') E' { s with heap := h, toks := tk })
    (fin : ∀ ys, DatAll base ys ((as.filter B).map f) → Fin ys base) : LCt.CompRestT prog w A h₀ L m env ct elt x scope cl s S (fun i v => its[i]? = some v) Fin its.size 0 [] base := by
  have key : ∀ (j i : Nat) (ys : List Value), i + j = as.length → DatAll base ys (((as.take i).filter B).map f) → LCt.CompRestT prog w A h₀ L m env ct elt x scope cl s S (fun i v => its[i]? = some v) Fin j i ys base := by
    intro j
    induction j with
    | zero =>
      intro i ys hi hy
      rw [List.take_of_length_le (by omega)] at hy
      exact LCt.CompRestT.zero (fin ys hy)
    | succ j ih =>
      intro i ys hi hy
      refine LCt.CompRestT.succ ?_
      intro v I oI C oC D m₂ h tk E' hv hC hx F N off ne
      obtain ⟨a, ha, hr⟩ := hrel i v hv
      have hs : as.take (i + 1) = as.take i ++ [a] := by rw [List.take_add_one, ha]; rfl
      refine wpAny_mono (turn a v ys I oI C oC D m₂ h tk E' (List.mem_of_getElem? ha) hr hC hx F N off ne) (fun b s₂ hq => ?_) fun _ _ e => e
      cases b with
      | true =>
        simp only [if_true] at hq ⊢
        refine wpAny_mono hq (fun y s₃ hr => ?_) fun _ _ e => e
        obtain ⟨h', tk', nw, e, F', N', off', hS, hn, hb, hd⟩ := hr
        subst hn
        refine ⟨h', tk', _, e, F', N', off', hS, ih (i + 1) _ (by omega) ?_⟩
        rw [hs, List.filter_append, List.map_append, List.filter_cons, if_pos hb]
        exact hy.append (.one hd)
      | false =>
        simp only [Bool.false_eq_true, if_false] at hq ⊢
        obtain ⟨h', tk', nw, e, F', N', off', hS, hn, hb⟩ := hq
        subst hn
        refine ⟨h', tk', _, e, F', N', off', hS, ih (i + 1) _ (by omega) ?_⟩
        rw [hs, List.filter_append, List.map_append, List.filter_cons, if_neg (by rw [hb]; decide)]
        simpa using hy
  rw [hsz]
  exact key as.length 0 [] (by omega) .nil
end
theorem sub_f {α : Type} {d c x y z : α} {own tl R : List α} : ∀ p ∈ R, p ∈ d :: (own ++ (c :: (tl ++ (x :: y :: z :: R)))) := by
  intro p hp; simp [hp]
theorem sub_nN {h₀ h : Heap} {L : Addr} {d c x y z : Addr × Obj} {own tl R : Led} (_ : News h₀ L h (d :: (own ++ (c :: (tl ++ (x :: y :: z :: R)))))) : (∀ p ∈ R, p ∈ d :: (own ++ (c :: (tl ++ (x :: y :: z :: R))))) ∧ z ∈ d :: (own ++ (c :: (tl ++ (x :: y :: z :: R)))) :=
  ⟨fun p hp => by simp [hp], by simp⟩
theorem perm_g {α : Type} {a d c x y z : α} {own tl R : List α} : ∀ p ∈ y :: z :: R, p ∈ a :: d :: (own ++ (c :: (tl ++ (x :: y :: z :: R)))) := by
  intro p hp; simp only [List.mem_cons, List.mem_append] at hp ⊢; rcases hp with h | h | h <;> simp [h]
theorem nums_shift_aux (e : Int) : ∀ (n : Nat) (off : Int) (s : List Int), s.length ≤ n → nums (e + off) s = (nums off s).map (shiftN e) := by
  intro n
  induction n with
  | zero =>
    intro off s h
    have : s = [] := List.eq_nil_of_length_eq_zero (by omega)
    subst this; rw [nums_nil, nums_nil]; rfl
  | succ n ih =>
    intro off s h
    by_cases h0 : 0 < s.length
    · by_cases hk : 0 < numLen s
      · rw [nums_yes h0 hk, nums_yes h0 hk, List.map_cons, Int.add_assoc, ih _ _ (by rw [List.length_drop]; omega)]
        rfl
      · rw [nums_no h0 (by omega), nums_no h0 (by omega), Int.add_assoc, ih _ _ (by rw [List.length_drop]; omega)]
    · have : s = [] := List.eq_nil_of_length_eq_zero (by omega)
      subst this; rw [nums_nil, nums_nil]; rfl
theorem nums_ge_aux : ∀ (n : Nat) (off : Int) (s : List Int), s.length ≤ n → ∀ q ∈ nums off s, off ≤ q.1 := by
  intro n
  induction n with
  | zero =>
    intro off s h q hq
    have : s = [] := List.eq_nil_of_length_eq_zero (by omega)
    subst this; rw [nums_nil] at hq; cases hq
  | succ n ih =>
    intro off s h q hq
    by_cases h0 : 0 < s.length
    · by_cases hk : 0 < numLen s
      · rw [nums_yes h0 hk] at hq
        rcases List.mem_cons.mp hq with rfl | hq
        · exact Int.le_refl _
        · have := ih _ _ (by rw [List.length_drop]; omega) q hq
          omega
      · rw [nums_no h0 (by omega)] at hq
        have := ih _ _ (by rw [List.length_drop]; omega) q hq
        omega
    · have : s = [] := List.eq_nil_of_length_eq_zero (by omega)
      subst this; rw [nums_nil] at hq; cases hq
theorem rest_aux (zs : List Int) : ∀ (n k : Nat), (zs.drop k).length ≤ n → ∀ q ∈ nums (k : Int) (zs.drop k), (nums (k : Int) (zs.drop k)).filter (fun r => decide (q.2.1 ≤ r.1)) = nums q.2.1 (zs.drop q.2.1.toNat) := by
  intro n
  induction n with
  | zero =>
    intro k hk q hq
    have : zs.drop k = [] := List.eq_nil_of_length_eq_zero (by omega)
    rw [this, nums_nil] at hq; cases hq
  | succ n ih =>
    intro k hk q hq
    by_cases h0 : 0 < (zs.drop k).length
    · have hq0 := nums_ok_aux zs _ k (Nat.le_refl _) q hq
      have hge := nums_ge_aux _ (k : Int) _ (Nat.le_refl _) q hq
      obtain ⟨q1, q2, q3, q4, q5⟩ := hq0
      by_cases hn : 0 < numLen (zs.drop k)
      · have hcast : (k : Int) + (numLen (zs.drop k) : Nat) = ((k + numLen (zs.drop k) : Nat) : Int) := by omega
        rw [nums_yes h0 hn] at hq ⊢
        rw [List.drop_drop, hcast] at hq ⊢
        rw [List.filter_cons, if_neg (by dsimp only; rw [decide_eq_true_eq]; omega)]
        rcases List.mem_cons.mp hq with rfl | hq
        · dsimp only
          rw [Int.toNat_natCast]
          refine List.filter_eq_self.mpr (fun r hr => decide_eq_true ?_)
          exact nums_ge_aux _ _ _ (Nat.le_refl _) r hr
        · exact ih _ (by rw [List.length_drop] at hk ⊢; omega) q hq
      · have hcast : (k : Int) + 1 = ((k + 1 : Nat) : Int) := by omega
        rw [nums_no h0 (by omega), List.drop_drop, hcast] at hq ⊢
        exact ih _ (by rw [List.length_drop] at hk ⊢; omega) q hq
    · have : zs.drop k = [] := List.eq_nil_of_length_eq_zero (by omega)
      rw [this, nums_nil] at hq; cases hq
theorem rest_law {zs : List Int} {i : Nat} {b e : Int} {v : Int × Int} (h : (nums 0 zs)[i]? = some (b, e, v)) : (nums 0 (zs.drop e.toNat)).map (shiftN e) = (nums 0 zs).filter (fun r => decide (e ≤ r.1)) := by
  have h1 := rest_aux zs _ 0 (Nat.le_refl _) (b, e, v) (by simpa using List.mem_of_getElem? h)
  have h2 := nums_shift_aux e _ 0 (zs.drop e.toNat) (Nat.le_refl _)
  rw [Int.add_zero] at h2
  rw [← h2]
  simpa using h1.symm
theorem rest_eq {zs : List Int} {i : Nat} {b e : Int} {v : Int × Int} (h : (nums 0 zs)[i]? = some (b, e, v)) : (nums 0 (zs.drop e.toNat)).map (fun r => numD (shiftN e r)) = ((nums 0 zs).filter (fun r => decide (e ≤ r.1))).map numD := by
  rw [← rest_law h, List.map_map]; rfl
theorem off_c {I c : Addr} {o o' : Obj} {R : Led} (h : ∀ p ∈ (c, o) :: R, p.1 ≠ I) : ∀ p ∈ (c, o') :: R, p.1 ≠ I := by
  intro p hp
  rcases List.mem_cons.mp hp with rfl | hp
  · exact h (c, o) (.head _)
  · exact h p (.tail _ hp)
theorem keep5 {a b c d e : Str} {v1 v2 v3 v4 v5 : Option Value} {u m : Str → Option Value} : ∀ z, [a, b, c, d, e].contains z = false → (if z = e then v1 else if z = d then v2 else if z = c then v3 else if z = b then v4 else if z = a then v5 else if [a, b, c, d, e].contains z = true then u z else m z) = m z := by
  intro z hz
  have hz' := hz
  simp only [List.contains_cons, List.contains_nil, Bool.or_false, Bool.or_eq_false_iff, beq_eq_false_iff_ne] at hz'
  obtain ⟨n1, n2, n3, n4, n5⟩ := hz'
  rw [if_neg n5, if_neg n4, if_neg n3, if_neg n2, if_neg n1, hz]
  simp
theorem nm_s {h₀ : Heap} {s : Shared} {h : Heap} {cur : Led} (_ : News h₀ s.heap.objs.size h cur) : ∃ s', s' = s := ⟨_, rfl⟩
theorem nm_d {h₀ h : Heap} {L dr : Addr} {o : Obj} {a b : Addr × Obj} {R : Led} (_ : News h₀ L h (a :: (dr, o) :: b :: R)) : ∃ d, d = dr := ⟨_, rfl⟩
theorem perm_h {α : Type} {a b c : α} {R : List α} : ∀ p ∈ c :: b :: R, p ∈ a :: b :: c :: R := by
  intro p hp; simp only [List.mem_cons] at hp ⊢; rcases hp with h | h | h <;> simp [h]
def pairD (q : Int × Int) : Dat := dPair q.1 q.2
structure WSt where
  at_ : Int
  ta : Tok
  us : List Value
  n : Nat
  tl : Led
  done : List (Int × Int)
  o : Obj
def WInv (zs : List Int) (R1 : Led) (dr c2 : Addr) (c : WSt) : Prop :=
  0 ≤ c.at_ ∧ c.at_ ≤ (zs.length : Int) ∧ DatAll (c.tl ++ R1) c.us (c.done.map pairD) ∧ (∀ p ∈ c.tl ++ R1, p.1 ≠ dr) ∧ (∀ p ∈ c.tl ++ R1, p.1 ≠ c2) ∧ c.done ++ runs c.at_ (zs.drop c.at_.toNat) = runs 0 zs ∧ (c.us.length : Int) ≤ c.at_ ∧ ∃ v, c.o.data = .cell v
theorem perm_i {α : Type} {a b c d : α} {tl R : List α} : ∀ p ∈ c :: d :: ((a :: tl) ++ R), p ∈ a :: b :: c :: d :: (tl ++ R) := by
  intro p hp; simp only [List.mem_cons, List.mem_append, List.cons_append] at hp ⊢; rcases hp with h | h | h | h | h <;> simp [h]
theorem dat_eq {prog : Program} {w : World} {A : Around} {E : Value → Shared → Prop} {s : Shared} {h₀ : Heap} {L : Addr} {cur : Led} {x y : Value} {d : Dat} {Q : Value → Shared → Prop}
    (N : News h₀ L s.heap cur) (Dx : DatIn cur x d) (Dy : DatIn cur y d) (hd : kqdOk 8 d = true) (hu : A.units + 64 < cLine) (h : Q (.bool true) s) : wpAny (model prog w) A (compareOp .Eq x y) Q E s := by
  obtain ⟨as, ra⟩ := kqd_in N 8 Dx hd
  obtain ⟨bs, rb⟩ := kqd_in N 8 Dy hd
  have l := kqd_lay 8 d hd
  have e : PyData.eqv (kqdP d) (kqdP d) = true := (kqd_eqv 8 d d 8 hd hd).mpr rfl
  refine eq_dataH ra rb ?_ ?_ hu (by rw [e]; exact h)
  · unfold SeqAt.shaped; rw [l.1, Bool.true_and]; exact decide_eq_true (Nat.le_trans l.2 (by decide))
  · unfold SeqAt.shaped; rw [l.1, Bool.true_and]; exact decide_eq_true (Nat.le_trans l.2 (by decide))
theorem pairs_ok (qs : List (Int × Int)) : kqdOk 8 (.list (qs.map pairD)) = true := by
  simp only [kqdOk, List.all_eq_true, List.mem_map]
  rintro d ⟨q, _, rfl⟩
  rfl
theorem run_rel {base : Led} : ∀ {us : List Value} {qs : List (Int × Int)}, RunAll base us qs → us.toArray.size = qs.length ∧ ∀ (i : Nat) v, us.toArray[i]? = some v → ∃ q, qs[i]? = some q ∧ RunIn base v q
  | _, _, .nil => ⟨rfl, fun i v h => by simp at h⟩
  | _, _, .cons a r => by
    obtain ⟨h1, h2⟩ := run_rel r
    refine ⟨by simpa using h1, fun i v h => ?_⟩
    cases i with
    | zero =>
      simp only [List.getElem?_toArray, List.getElem?_cons_zero, Option.some.injEq] at h
      subst h
      exact ⟨_, rfl, a⟩
    | succ i =>
      have := h2 i v (by simpa using h)
      simpa using this
theorem runs_len_aux : ∀ (n : Nat) (off : Int) (s : List Int), s.length ≤ n → (runs off s).length ≤ s.length := by
  intro n
  induction n with
  | zero =>
    intro off s h
    have : s = [] := List.eq_nil_of_length_eq_zero (by omega)
    subst this; rw [runs_nil]; simp
  | succ n ih =>
    intro off s h
    by_cases h0 : 0 < s.length
    · by_cases hk : 0 < runLen s
      · rw [runs_yes h0 hk, List.length_cons]
        have h1 := ih (off + (runLen s : Nat)) (s.drop (runLen s)) (by rw [List.length_drop]; omega)
        rw [List.length_drop] at h1
        have h2 := runLen_le s
        omega
      · rw [runs_no h0 (by omega)]
        have h1 := ih (off + 1) (s.drop 1) (by rw [List.length_drop]; omega)
        rw [List.length_drop] at h1
        omega
    · have : s = [] := List.eq_nil_of_length_eq_zero (by omega)
      subst this; rw [runs_nil]; simp
theorem runs_len (s : List Int) : (runs 0 s).length ≤ s.length := runs_len_aux _ 0 s (Nat.le_refl _)
theorem fin_nN {h₀ h : Heap} {L : Addr} {d c x y : Addr × Obj} {own tl R : Led} (_ : News h₀ L h (d :: (own ++ (c :: (tl ++ (x :: y :: R)))))) : y ∈ d :: (own ++ (c :: (tl ++ (x :: y :: R)))) ∧ ∀ p ∈ R, p ∈ d :: (own ++ (c :: (tl ++ (x :: y :: R)))) :=
  ⟨by simp, fun p hp => by simp [hp]⟩
theorem met_frac {s : List Int} {p : Int × Int} (h : metVal s = some p) : p = fracV (s.take (numLen s)) := by
  unfold metVal at h
  split at h
  · cases h
  · split at h
    · cases h
    · exact (Option.some.inj h).symm
theorem told_aux : ∀ (n : Nat) (off : Int) (s : List Int), s.length ≤ n → Told (nums off s) (mets off s) := by
  intro n
  induction n with
  | zero =>
    intro off s h
    have : s = [] := List.eq_nil_of_length_eq_zero (by omega)
    subst this; rw [nums_nil, mets_nil]; exact .nil
  | succ n ih =>
    intro off s h
    by_cases h0 : 0 < s.length
    · by_cases hk : 0 < numLen s
      · rw [nums_yes h0 hk, mets_yes h0 hk]
        exact .cons (fun p hp => met_frac hp) (ih _ _ (by rw [List.length_drop]; omega))
      · rw [nums_no h0 (by omega), mets_no h0 (by omega)]
        exact ih _ _ (by rw [List.length_drop]; omega)
    · have : s = [] := List.eq_nil_of_length_eq_zero (by omega)
      subst this; rw [nums_nil, mets_nil]; exact .nil
theorem told_law (s : List Int) : Told (nums 0 s) (mets 0 s) := told_aux _ 0 s (Nat.le_refl _)
theorem unit_n1_law : True := by
  w_top off
  trivial
--@nofill
/-! ## law -/
section
local macro_rules | `(tactic| k_all) => `(tactic| first | assumption | exact fun p hp => Nat.ne_of_lt ((by assumption : ∀ p ∈ _, p.1 < _) p hp))
local macro_rules | `(tactic| k_mem) => `(tactic| kcf_m)
local macro_rules | `(tactic| ktr_room) => `(tactic| exact of_decide_eq_true rfl)
local macro_rules | `(tactic| ktr_units) => `(tactic| exact of_decide_eq_true rfl)
local macro_rules | `(tactic| walk_at "exec For Name Call cons nil") => `(tactic| (k_here; (refine' For_invVF ?FF ?k1 ?k2 ?_ ?hs ?hE); (case FF => k_asm); (case k1 => exact rfl); (case k2 => exact rfl); (case hs => (intro _; rfl)); (case hE => passes_own); k_whole))
local macro_rules | `(tactic| walk_at "exec For Tuple Name cons nil") => `(tactic| (k_here; (refine' For_turns ?FF ?_ ?hs ?hE); (case FF => k_asm); (case hs => (intro _; rfl)); (case hE => passes_own); k_whole))
local macro_rules | `(tactic| walk_at "call type:range") => `(tactic| (k_here; (rename Fr _ _ _ _ => F'); (rename News _ _ _ _ => N'); (with_unfolding_all refine range1_rows F' N' ?_); intro _ _ _ _ _ _ _ _ _))
local macro_rules | `(tactic| walk_at "pyIter ref") => `(tactic| (refine hold ?_))
local macro_rules | `(tactic| walk_at "call builtin:list.append cons nil") => `(tactic| (k_here; k_dflt (refine' append_K ?k1 ?k2 ?k3 ?_ ?z; (case k1 => k_asm); (case k2 => k_asm); (case k3 => k_upd); (case z => (rw [List.size_toArray, sizeLine_eq]; omega)); k_whole); intro h' F' N'; (try k_sweep)))
local macro_rules | `(tactic| walk_at "compareOp Eq ref ref") => `(tactic| (refine hold ?_))
local macro_rules | `(tactic| walk_at "compareOp NotEq ref ref") => `(tactic| (refine hold ?_))
local macro_rules | `(tactic| walk_at "compareOp NotEq int int") => `(tactic| (k_here; k_dflt (refine ne_no (by omega) ?_)))
local macro_rules | `(tactic| walk_at "CompSrc") => `(tactic| (refine hold ?_))
local macro_rules | `(tactic| walk_at "CompSrcT") => `(tactic| (refine hold ?_))
local macro_rules | `(tactic| walk_at "CompEnd") => `(tactic| (refine hold ?_))
local macro_rules | `(tactic| walk_at "call ref") => `(tactic| (k_here; (with_reducible show wpAny _ _ (call (Value.ref 306) _ _) _ _ _); refine hold ?_))
local macro_rules | `(tactic| walk_at "call ref cons nil") => `(tactic| (k_here; (first | (with_reducible show wpAny _ _ (call (Value.ref 351) _ _) _ _ _) | (with_reducible show wpAny _ _ (call (Value.ref 299) _ _) _ _ _) | (with_reducible show wpAny _ _ (call (Value.ref 313) _ _) _ _ _)); refine hold ?_))
theorem ne_no {prog : Program} {w : World} {A : Around} {E : Value → Shared → Prop} {s : Shared} {a b : Int} {t u : Tok} {Q : Value → Shared → Prop} (e : a = b) (h : Q (.bool false) s) : wpAny (model prog w) A (compareOp .NotEq (.int a t) (.int b u)) Q E s :=
  PyProof.Rows.ne_int (by rw [show (a != b) = false by simp [e]]; exact h)
theorem nums_len_aux : ∀ (n : Nat) (off : Int) (s : List Int), s.length ≤ n → (nums off s).length ≤ s.length := by
  intro n
  induction n with
  | zero =>
    intro off s h
    have : s = [] := List.eq_nil_of_length_eq_zero (by omega)
    subst this; rw [nums_nil]; simp
  | succ n ih =>
    intro off s h
    by_cases h0 : 0 < s.length
    · by_cases hk : 0 < numLen s
      · rw [nums_yes h0 hk, List.length_cons]
        have h1 := ih (off + (numLen s : Nat)) (s.drop (numLen s)) (by rw [List.length_drop]; omega)
        rw [List.length_drop] at h1
        have h2 := runLen_pre (s := s)
        omega
      · rw [nums_no h0 (by omega)]
        have h1 := ih (off + 1) (s.drop 1) (by rw [List.length_drop]; omega)
        rw [List.length_drop] at h1
        omega
    · have : s = [] := List.eq_nil_of_length_eq_zero (by omega)
      subst this; rw [nums_nil]; simp
theorem nums_len (s : List Int) : (nums 0 s).length ≤ s.length := nums_len_aux _ 0 s (Nat.le_refl _)
theorem ints_of_dat {news : Led} : ∀ {xs : List Int} {vs : List Value}, DatAll news vs (xs.map Dat.int) → IntsAre vs xs
  | [], _, h => by cases h; exact .nil
  | x :: xs, _, h => by
    cases h with
    | cons a r => cases a with
      | int _ t => exact .cons x t (ints_of_dat r)
theorem ints_rel {xs : List Int} {vs : List Value} (h : IntsAre vs xs) : vs.toArray.size = xs.length ∧ ∀ (i : Nat) v, vs.toArray[i]? = some v → ∃ a, xs[i]? = some a ∧ ∃ t, v = Value.int a t := by
  have hd := tl_dat (news := []) h
  obtain ⟨h1, h2⟩ := dat_rel (f := Dat.int) hd
  refine ⟨h1, fun i v hv => ?_⟩
  obtain ⟨a, ha, hb⟩ := h2 i v hv
  cases hb with
  | int _ t => exact ⟨a, ha, t, rfl⟩
theorem perm_a {α : Type} {a b c d e : α} {R : List α} : ∀ p ∈ [a, b, d, e], p ∈ a :: b :: (R ++ [c, d, e]) := by
  intro p hp; simp only [List.mem_cons, List.mem_append, List.not_mem_nil, or_false] at hp ⊢; rcases hp with h | h | h | h <;> simp [h]
theorem perm_b {α : Type} {a b d e : α} {R : List α} : ∀ p ∈ a :: b :: d :: e :: R, p ∈ R ++ [a, b, d, e] := by
  intro p hp; simp only [List.mem_cons, List.mem_append, List.not_mem_nil, or_false] at hp ⊢; rcases hp with h | h | h | h | h <;> simp [h]
theorem rows_off {h₀ h : Heap} {L l D c1 c2 : Addr} {o o1 o2 o3 : Obj} {dL : Led} (_ : News h₀ L h ((l, o) :: (D, o1) :: (c2, o2) :: (c1, o3) :: dL)) (g5 : @LT.lt Nat _ D l) (g1 : @LT.lt Nat _ c2 l) (g2 : @LT.lt Nat _ c1 l) (f1 : ∀ p ∈ dL, p.1 ≠ l) : ∀ p ∈ (D, o1) :: (c2, o2) :: (c1, o3) :: dL, p.1 ≠ l :=
  List.forall_mem_cons.mpr ⟨Nat.ne_of_lt g5, List.forall_mem_cons.mpr ⟨Nat.ne_of_lt g1, List.forall_mem_cons.mpr ⟨Nat.ne_of_lt g2, f1⟩⟩⟩
theorem code_off {I C D l : Addr} {oI oC oD o : Obj} {R : Led} (h : LCg.Off3 I C D ((l, o) :: R)) (h2 : ∀ p ∈ R, p.1 ≠ l) : ∀ p ∈ (I, oI) :: (C, oC) :: (D, oD) :: R, p.1 ≠ l :=
  List.forall_mem_cons.mpr ⟨Ne.symm h.1.1, List.forall_mem_cons.mpr ⟨Ne.symm h.1.2.1, List.forall_mem_cons.mpr ⟨Ne.symm h.1.2.2, h2⟩⟩⟩
theorem perm_c {α : Type} {a b c d : α} {R : List α} : ∀ p ∈ d :: a :: b :: c :: R, p ∈ a :: b :: c :: d :: R := by
  intro p hp; simp only [List.mem_cons] at hp ⊢; rcases hp with h | h | h | h | h <;> simp [h]
theorem perm_c2 {α : Type} {a b c d : α} {R : List α} : ∀ p ∈ a :: b :: c :: d :: R, p ∈ d :: a :: b :: c :: R := by
  intro p hp; simp only [List.mem_cons] at hp ⊢; rcases hp with h | h | h | h | h <;> simp [h]
theorem law_main : PySem.Challenge.rw_pq1302_01.Holds := by
  refine hd ?_
  k_go0
  all_goals (try k_fold)
  k_steps
  unfold Hold
  rename News _ _ _ _ => nN
  rename Fr _ _ _ _ => nF
  rename IntsAre _ (List.take 40 _) => hc1
  rename List.length (List.take 40 _) = _ => hc2
  k_dflt (refine LCg.CompSrc.ledger rfl nF nN (.head _) (by rw [(ints_rel hc1).1, sizeLine_eq, hc2]; omega) ?_)
  intro g
  refine comp_dat (fun q v => ∃ t, v = Value.int q t) Dat.int (fun e => .inr ⟨_, List.mem_append_right _ (.head _), rfl, _, rfl⟩) (ints_rel hc1).1 (ints_rel hc1).2 (fun q v cur ys I oI C oC D m₂ h tk E' hq hr hsub hS hC hx F N off ne => ?_) ?_
  · obtain ⟨t, rfl⟩ := hr
    clear nF nN
    k_steps
    unfold Hold
    exact LCg.CompEnd.intro (by assumption) (by assumption) _ (fun _ h => h) off (hS []) ⟨[], rfl, .int _ _⟩
  · intro ys own hd1
    clear nF nN
    have hy1 := ints_of_dat hd1
    k_steps
    unfold Hold
    rename Fr _ _ _ _ => nF
    rename News _ _ _ _ => nN
    have nN2 := cb_drop nN (perm_a (R := own))
    rename LCg.Off1 _ (own ++ _) => o1
    rename _ ∧ AllLt _ (own ++ _) => l9
    have g1 : @LT.lt Nat _ _ _ := ktn_ltOf l9.2 _ (List.mem_append_right _ (.tail _ (.head _)))
    have g2 : @LT.lt Nat _ _ _ := ktn_ltOf l9.2 _ (List.mem_append_right _ (.tail _ (.tail _ (.head _))))
    have g3 := off1_mem o1 _ (List.mem_append_right _ (.tail _ (.head _)))
    have g4 := off1_mem o1 _ (List.mem_append_right _ (.tail _ (.tail _ (.head _))))
    have g5 := l9.1
    dsimp only at g1 g2 g3 g4
    k_dflt (refine' Spec.use ?zB1 nF ?zX1 nN2 ?zT1 ?zK1 (law_data_c _ _) ?zd1 ?zu1 ?_)
    (case zB1 => k_asm)
    (case zX1 => k_asm)
    (case zT1 => k_asm)
    (case zK1 => first | exact rfl | assumption)
    (case zd1 => first | ktr_room | exact of_decide_eq_true rfl)
    (case zu1 => first | ktr_units | exact of_decide_eq_true rfl)
    k_whole
    rintro v9 nx9 h9 tk9 ⟨x, dL, rfl, rfl, hD, hap⟩ F2 N2
    clear nF nN nN2
    replace N2 := cb_drop N2 (perm_b (R := dL))
    have f1 := fun p hp => hap p hp _ (.head _)
    have f2 := fun p hp => hap p hp _ (.tail _ (.head _))
    have f3 := fun p hp => hap p hp _ (.tail _ (.tail _ (.head _)))
    have f4 := fun p hp => hap p hp _ (.tail _ (.tail _ (.tail _ (.head _))))
    dsimp only at f1 f2 f3 f4
    clear hap hd1 o1 l9
    k_steps
    unfold Hold
    rename Fr _ _ _ _ => nF
    rename News _ _ _ _ => nN
    k_dflt (refine' Spec.use ?zB2 nF ?zX2 (cb_drop nN (fun p hp => List.Mem.tail _ hp)) ?zT2 ?zK2 (law_next_c _ _ _ _ _ _ _ _ _ _ ?zr2 ⟨_, _, .head _, hy1⟩ ?zl2 ?za2 ?zb2 ?zc2 ?ze2) ?zd2 ?zu2 ?_)
    (case zB2 => k_asm)
    (case zX2 => k_asm)
    (case zT2 => k_asm)
    (case zK2 => first | exact rfl | assumption)
    (case zr2 => exact List.forall_mem_cons.mpr ⟨Nat.ne_of_lt g5, List.forall_mem_cons.mpr ⟨Nat.ne_of_lt g1, List.forall_mem_cons.mpr ⟨Nat.ne_of_lt g2, f1⟩⟩⟩)
    (case zl2 => exact Nat.lt_of_le_of_lt (List.length_take_le 40 _) (by decide))
    (case za2 => omega)
    (case zb2 => omega)
    (case zc2 => omega)
    (case ze2 => omega)
    (case zd2 => first | ktr_room | exact of_decide_eq_true rfl)
    (case zu2 => first | ktr_units | exact of_decide_eq_true rfl)
    k_whole
    rintro v9 nx9 h9 tk9 ⟨xn, t9, u9, n9, rfl, b1, b2, rfl⟩ F3 N3
    have hr1 := rows_off N3 g5 g1 g2 f1
    clear nF nN
    k_steps
    unfold Hold
    rename News _ _ _ _ => nN
    rename Fr _ _ _ _ => nF
    rename IsRange _ _ _ _ _ _ _ _ => hrg
    k_dflt (refine LCg.CompSrc.range (n := (xn - 0).toNat) rfl nF nN hrg (small_one (by omega) (by omega) (by omega) (by omega)) (rangeSize_nat _ _) (by rw [sizeLine_eq]; omega) ?_)
    intro g
    refine comp_state (fun i ys cur => ∃ zs k tk n', IntsAre ys zs ∧ zs.length = i ∧ (∀ c ∈ zs, c ∈ Alpha) ∧ 0 ≤ k ∧ k ≤ 1 + 2 * (i : Int) ∧ cur = (_, listOf #[Value.int k tk, Value.ref _] n') :: _) ?_ ?_ ⟨[], 0 + 1, _, _, .nil, rfl, List.forall_mem_nil _, by omega, by omega, rfl⟩
    · rintro i us cur v I oI C oC D m₂ h tk E' hi ⟨zs, k, tk2, n2, hz, hl, hA, hk0, hk1, rfl⟩ hP hC hx F N off ne
      clear nF nN
      k_steps
      unfold Hold
      rename News _ _ _ _ => nN
      rename Fr _ _ _ _ => nF
      k_dflt (refine' Spec.use ?zB3 nF ?zX3 (cb_drop nN perm_c) ?zT3 ?zK3 (law_code_c _ _ _ _ k _ _ _ (code_off off hr1) ⟨_, _, .tail _ (.tail _ (.tail _ (.head _))), hy1⟩ ?zl3 hk0 ?zc3) ?zd3 ?zu3 ?_)
      (case zB3 => k_asm)
      (case zX3 => k_asm)
      (case zT3 => k_asm)
      (case zK3 => first | exact rfl | assumption)
      (case zl3 => exact Nat.lt_of_le_of_lt (List.length_take_le 40 _) (by decide))
      (case zc3 => omega)
      (case zd3 => first | ktr_room | exact of_decide_eq_true rfl)
      (case zu3 => first | ktr_units | exact of_decide_eq_true rfl)
      k_whole
      rintro v9 nx9 h9 tk9 ⟨c, k', t9, u9, n3, rfl, hcA, hk2, hk3, rfl⟩ F4 N4
      clear nF nN
      k_steps
      unfold Hold
      rename News _ _ _ _ => nN
      refine LCg.CompEnd.intro (by assumption) nN _ perm_c2 ⟨off.1, off.2⟩ trivial ⟨zs ++ [c], k', _, _, hz.append (.cons c _ .nil), by rw [List.length_append, hl]; rfl, fun d hd => (List.mem_append.mp hd).elim (hA d) (fun h => by rw [List.mem_singleton.mp h]; exact hcA), by omega, by omega, rfl⟩
    · rintro us cur ⟨zs, k, tk2, n2, hz, hl, hA, hk0, hk1, rfl⟩
      clear nF nN
      k_steps
      unfold Hold
      rename News _ _ _ (_ :: _ :: _ :: _ :: _ :: _ :: dL) => nN
      rename _ ∧ _ ∧ _ ∧ _ ∧ LCg.Off1 _ dL => off
      rename _ ∧ _ ∧ _ ∧ _ ∧ _ ∧ AllLt _ dL => lw
      obtain ⟨R0, N0, ht, hw, hD0, hc0⟩ := law_pack nN hz hD off.2.2.1 lw.2.2.2.1 f3
      have hz10 : zs.length < 10 := by omega
      clear nN off lw hD hz f1 f2 f3 f4 g1 g2 g3 g4 g5 hr1 hy1
      k_steps
      unfold Hold
      rename Fr _ _ _ _ => nF
      rename IsRange _ _ _ _ _ _ _ _ => hrg
      rename News _ _ _ _ => nN
      k_dflt (refine iter_rangeUnr (n := ((zs.length : Int) - 0).toNat) (by rfl) hrg (small_one (by omega) (by omega) (by omega) (by omega)) (rangeSize_nat _ _) nF nN (fun I hI => ?_))
      refine range_inv [] (fun _ nx => nx = (_, _) :: R0) ?_ ?_ _ 0 _ _ (Nat.zero_add _) rfl (fun p hp => Nat.ne_of_lt (hI p hp)) (fun _ _ => rfl)
      · rintro i t u h tk oI nx hi rfl hI2 F2 N2
        clear nF nN
        (try k_unmd); (try k_fold)
        k_steps
        all_goals (unfold Hold; rename News _ _ _ _ => nN; exact foend (_ :: R0) (by assumption) (cb_drop nN (by kcf_all)) hI2 keepR rfl)
      · rintro u h tk nx rfl F2 N2
        clear nF nN
        (try k_unmd); (try k_fold)
        k_steps
        unfold Hold
        rename Fr _ _ _ _ => nF
        rename News _ _ _ _ => nN
        rename DatAll _ _ ((nums 0 zs).map numD) => dq
        rename DatAll _ _ ((mets 0 zs).map metD) => dm
        k_dflt (refine LCg.CompSrc.ledger rfl nF nN (.head _) (by rw [(dat_rel dq).1, sizeLine_eq]; have := nums_len zs; omega) ?_)
        intro g
        refine comp_dat (fun q v => DatIn _ v (numD q)) numD (fun e => .inr ⟨_, List.mem_append_right _ (.head _), rfl, _, rfl⟩) (dat_rel dq).1 (dat_rel dq).2 (fun q v cur ys I oI C oC D m₂ h tk E' hq hr hsub hS hC hx F N off ne => ?_) ?_
        · obtain ⟨T, T2, t1, t2, u1, u2, n1, n2, rfl, hm, hm2⟩ := numD_in hr
          have hm3 := hsub _ (.tail _ hm)
          clear nF nN
          k_steps
          unfold Hold
          exact LCg.CompEnd.intro (by assumption) (by assumption) _ (fun _ h => h) off (hS []) ⟨[], rfl, hr.mono (fun p hp => hsub _ (.tail _ hp))⟩
        · intro ys own hd1
          clear nF nN
          k_steps
          unfold Hold
          rename News _ _ _ _ => nN
          rename Fr _ _ _ _ => nF
          obtain ⟨R1, N1, hR1, hq1, hc1⟩ := led_pack2 nN (by assumption) hc0
          have dq2 : DatAll R1 ys ((nums 0 zs).map numD) := dall_seq (fun p hp hs => hq1 p (.tail _ hp) hs) hd1
          have hm2 := hq1 _ (.head _) rfl
          have dm2 : DatAll R1 _ ((mets 0 zs).map metD) := dall_seq (fun p hp hs => hq1 p (.tail _ (List.mem_append_right _ (.tail _ (List.mem_append_right _ (.tail _ hp))))) hs) dm
          have hm3 := hq1 _ (.tail _ (List.mem_append_right _ (.tail _ (List.mem_append_right _ (.head _))))) rfl
          k_dflt (refine' Spec.use ?zB5 nF ?zX5 N1 ?zT5 ?zK5 (is_told_c _ _ _ _ _ _ _ _ (nums 0 zs) (mets 0 zs) (.tail _ hm2) (.tail _ hm3) (dq2.mono (fun p hp => .tail _ hp)) (dm2.mono (fun p hp => .tail _ hp)) (told_law zs) ?zl5) ?zd5 ?zu5 ?_)
          (case zB5 => k_asm)
          (case zX5 => k_asm)
          (case zT5 => k_asm)
          (case zK5 => first | exact rfl | assumption)
          (case zl5 => exact Nat.lt_of_le_of_lt (nums_len zs) hz10)
          (case zd5 => ktr_room)
          (case zu5 => ktr_units)
          k_whole
          rintro v9 nx9 h9 tk9 ⟨rfl, rfl⟩ F5 N5
          have ht1 := ht.mono hR1
          have hw1 := hw.mono hR1
          have hD1 := hD0.mono hR1
          clear nF nN N1 hR1 hq1 dm2 hm3 hd1 dq dm ht hw hD0 hc0
          k_steps
          unfold Hold
          rename News _ _ _ _ => nN
          rename Fr _ _ _ _ => nF
          k_dflt (refine' iter_listTurns ?yh6 ?yF6 ?yN6 (.tail _ hm2) ?yc6 ?yd6 ?_)
          (case yh6 => with_unfolding_all rfl)
          (case yF6 => exact nF)
          (case yN6 => exact nN)
          (case yc6 => exact rfl)
          (case yd6 => exact rfl)
          k_whole
          intro J hJ
          refine items_inv (keep := [(_, LCg.lst ys)]) _ [Str.ofString "begin", Str.ofString "value", Str.ofString "piece", Str.ofString "alone", Str.ofString "rest"] (fun _ nx => ∃ o2 v2, nx = (_, o2) :: R1 ∧ o2.data = .cell v2) (fun _ nx g => by obtain ⟨o2, v2, rfl, -⟩ := g; exact ⟨.tail _ hm2, trivial⟩) ?_ ?_ _ 0 _ _ rfl (Nat.zero_add _) ⟨_, _, rfl, by assumption⟩ (fun p hp => Nat.ne_of_lt (hJ p hp)) (fun _ _ => rfl)
          · rintro i a9 v9 u h tk oI nx ha hav ⟨o2, v2, rfl, ho2⟩ hI2 F2 N2
            clear nF nN hJ
            obtain ⟨⟨qb, qe, qv⟩, hq, hdq⟩ := items_dat dq2 ha hav
            obtain ⟨hv, hP0, hP1, hP2⟩ := piece_ok (nums_ok hq)
            obtain ⟨q1, q2, q3, -, -⟩ := nums_ok hq
            dsimp only at q1 q2 q3
            subst hv
            obtain ⟨T, T2, t1, t2, u1, u2, n1, n2, rfl, hm4, hm5⟩ := numD_in hdq
            dsimp only at hm4 hm5
            have hI3 : @Ne Nat _ _ := hI2 _ (.head _)
            dsimp only at hI3
            (try k_unmd); (try k_fold)
            k_steps
            unfold Hold
            rename Fr _ _ _ _ => nF
            rename News _ _ _ _ => nN
            rename DatAll _ _ ((nums 0 (List.take _ _)).map numD) => dq
            rw [hP2] at dq
            k_dflt (refine LCg.CompSrc.ledger rfl nF nN (.head _) (by rw [(dat_rel dq).1, sizeLine_eq]; simp) ?_)
            intro g
            refine comp_dat (fun q v => DatIn _ v (numD q)) numD (fun e => .inr ⟨_, List.mem_append_right _ (.head _), rfl, _, rfl⟩) (dat_rel dq).1 (dat_rel dq).2 (fun q v cur ys I oI C oC D m₂ h tk E' hq hr hsub hS hC hx F N off ne => ?_) ?_
            · obtain ⟨T, T2, t1, t2, u1, u2, n1, n2, rfl, hm, hm2⟩ := numD_in hr
              have hm3 := hsub _ (.tail _ hm)
              clear nF nN
              k_steps
              unfold Hold
              exact LCg.CompEnd.intro (by assumption) (by assumption) _ (fun _ h => h) off (hS []) ⟨[], rfl, hr.mono (fun p hp => hsub _ (.tail _ hp))⟩
            · intro ys own hd1
              clear nF nN
              k_steps
              unfold Hold
              rename News _ _ _ _ => nN
              have hT2 : DatIn R1 (.ref T2) (dPair _ _) := .tuple (vs := [_, _]) hm5 (.cons (.int _ _) (.cons (.int _ _) .nil))
              k_dflt (refine alone_ne nN hd1 hT2 sub_d (by exact of_decide_eq_true rfl) ?_)
              replace nN := cb_drop nN perm_d
              clear hd1 dq
              k_steps
              unfold Hold
              rename News _ _ _ _ => nN
              k_dflt (refine dat_ne nN (d := dPair _ _) (.tuple (vs := [_, _]) (.head _) (.cons (.int _ _) (.cons (.int _ _) .nil))) (hT2.mono sub_e) rfl (by exact of_decide_eq_true rfl) ?_)
              replace nN := cb_drop nN (fun p hp => List.Mem.tail _ (List.Mem.tail _ hp))
              have hdl : (List.drop qe.toNat zs).length < 10 := by rw [List.length_drop]; omega
              have hdA : ∀ c ∈ List.drop qe.toNat zs, c ∈ Alpha := fun c hc => hA c (List.mem_of_mem_drop hc)
              k_steps
              unfold Hold
              rename Fr _ _ _ _ => nF
              rename News _ _ _ _ => nN
              rename DatAll _ _ ((nums 0 (List.drop _ _)).map numD) => dq
              k_dflt (refine LCg.CompSrc.ledger rfl nF nN (.head _) (by rw [(dat_rel dq).1, sizeLine_eq]; have := nums_len (List.drop qe.toNat zs); omega) ?_)
              intro g
              refine comp_dat (fun q v => DatIn _ v (numD q)) (fun r => numD (shiftN qe r)) (fun e => .inr ⟨_, List.mem_append_right _ (.head _), rfl, _, rfl⟩) (dat_rel dq).1 (dat_rel dq).2 (fun q v cur ys I oI C oC D m₂ h tk E' hq hr hsub hS hC hx F N off ne => ?_) ?_
              · obtain ⟨T, T2, t1, t2, u1, u2, n1, n2, rfl, hm, hm2⟩ := numD_in hr
                have hm3 := hsub _ (.tail _ hm)
                have hm4 := hsub _ (.tail _ hm2)
                have hc5 := hsub _ (.tail _ (List.mem_append_right _ (.tail _ (.tail _ (.head _)))))
                clear nF nN
                k_steps
                unfold Hold
                exact comp_end1 (by assumption) (by assumption) off (by assumption) hS (.tuple (vs := [_, _, _]) (.head _) (.cons (.int _ _) (.cons (.int _ _) (.cons (.tuple (vs := [_, _]) (.tail _ hm4) (.cons (.int _ _) (.cons (.int _ _) .nil))) .nil))))
              · intro ys9 own hd1
                clear nF nN
                k_steps
                unfold Hold
                rename Fr _ _ _ _ => nF
                rename News _ _ _ _ => nN
                obtain ⟨hb9, hz9⟩ := sub_nN nN (R := R1)
                have hsr := hb9 _ hm2
                k_dflt (refine LCt.CompSrcT.ledger rfl nF nN hsr (by rw [(dat_rel dq2).1, sizeLine_eq]; have := nums_len zs; omega) ?_)
                intro g
                refine comp_filt (fun q v => DatIn R1 v (numD q)) (fun r => decide (qe ≤ r.1)) numD (dat_rel dq2).1 (dat_rel dq2).2 (fun q v ys I oI C oC D m₂ h tk E' hq hr hC hx F N off ne => ?_) ?_
                · obtain ⟨T, T2, t1, t2, u1, u2, n1, n2, rfl, hm, hm2⟩ := numD_in hr
                  have hm3 := hb9 _ hm
                  clear nF nN
                  k_steps
                  all_goals (try unfold Hold)
                  · exact LCg.CompEnd.intro (by assumption) (by assumption) _ (fun _ h => h) off (.inr ⟨_, hsr, rfl, _, rfl⟩) ⟨rfl, decide_eq_true (by assumption), hr.mono hb9⟩
                  · exact LCg.CompEnd.intro (by assumption) (by assumption) _ (fun _ h => h) off (.inr ⟨_, hsr, rfl, _, rfl⟩) ⟨rfl, decide_eq_false (by assumption)⟩
                · intro ys8 hd8
                  clear nF nN
                  k_steps
                  unfold Hold
                  rename News _ _ _ _ => nN
                  rw [rest_eq hq] at hd1
                  k_dflt (refine dat_ne nN (d := .list (((nums 0 zs).filter (fun r => decide (qe ≤ r.1))).map numD)) (.list (.tail _ (.head _)) (hd1.mono fun p hp => .tail _ (.tail _ hp))) (.list (.head _) (hd8.mono fun p hp => .tail _ hp)) (nums_dat_ok _) (by exact of_decide_eq_true rfl) ?_)
                  replace nN := cb_drop nN perm_g
                  clear hd8 hd1 hb9 hz9 hsr
                  k_steps
                  unfold Hold
                  rename News _ _ _ _ => nN
                  exact foend (_ :: R1) (by assumption) nN (off_c hI2) keep5 ⟨_, _, rfl, by assumption⟩
          · rintro u h tk nx ⟨o2, v2, rfl, ho2⟩ F2 N2
            clear nF nN
            (try k_unmd); (try k_fold)
            k_steps
            unfold Hold
            rename Fr _ _ _ _ => lF'
            rename News _ _ _ (_ :: _ :: _ :: R1) => lN'
            obtain ⟨s9, hs9⟩ := nm_s lN'
            subst hs9
            obtain ⟨dr, hdr⟩ := nm_d lN'
            subst hdr
            rename _ ∧ AllLt dr R1 => l9
            have hdr := ktn_ltOf l9.2
            have hdc := l9.1
            k_dflt (refine ksw_while (σ := WSt) (fun c => (s9.heap.objs.size + 1 + 1, c.o) :: (dr, listOf c.us.toArray c.n) :: (c.tl ++ R1)) (fun c => [(Str.ofString "at", .int c.at_ c.ta)]) (fun _ => True) [] (WInv zs R1 dr (s9.heap.objs.size + 1 + 1)) (fun c => ((zs.length : Int) - c.at_).toNat) ⟨0, _, [], 0, [], [], o2⟩ lF' (cb_drop lN' perm_h) trivial (List.forall_mem_cons.mpr ⟨rfl, List.forall_mem_nil _⟩) ⟨Int.le_refl _, by dsimp only; omega, .nil, fun p hp => Nat.ne_of_lt (hdr p hp), hc1, rfl, by dsimp only; simp, _, ho2⟩ ?_)
            rintro ⟨at_, ta, us9, n9, tl9, done9, o9⟩ u9 h9 tk9 - ⟨p1, p2, p3, p4, p5, p6, p7, v9, p8⟩ F3 N3
            dsimp only at p1 p2 p3 p4 p5 p6 p7 p8 F3 N3 ⊢
            simp only [kstB, List.contains_nil, Bool.false_eq_true, if_false] at F3
            clear lF' lN'
            have ht3 := ht1.mono (fun p hp => List.mem_append_right tl9 hp)
            (try k_unmd); (try k_fold)
            k_steps
            all_goals (try unfold Hold)
            · rename at_ < at_ + _ => ha9
              have k0 : 0 < runLen (zs.drop at_.toNat) := by omega
              have k1 : 0 < (zs.drop at_.toNat).length := by rw [List.length_drop]; omega
              have k2 := runLen_le (zs.drop at_.toNat)
              rw [List.length_drop] at k2
              rename News _ _ _ (_ :: _ :: _ :: _ :: (tl9 ++ R1)) => nN
              rename _ ∧ _ ∧ _ ∧ AllLt _ (tl9 ++ R1) => lD
              rw [List.push_toArray] at nN
              refine ksw_end ⟨at_ + (runLen (zs.drop at_.toNat) : Nat), _, us9 ++ [.ref _], n9 + 1, (_, _) :: tl9, done9 ++ [(at_, at_ + (runLen (zs.drop at_.toNat) : Nat))], _⟩ (by assumption) nN perm_i trivial (List.forall_mem_cons.mpr ⟨at_fix1 (a := at_ + 1) (e := at_ + (runLen (zs.drop at_.toNat) : Nat)) (by omega), List.forall_mem_nil _⟩) (by ksw_same) ?_ ?_
              · refine ⟨?_, ?_, ?_, List.forall_mem_cons.mpr ⟨Nat.ne_of_gt lD.2.2.1, p4⟩, List.forall_mem_cons.mpr ⟨Nat.ne_of_gt lD.2.1, p5⟩, ?_, ?_, _, by assumption⟩
                · dsimp only; omega
                · dsimp only; omega
                · dsimp only
                  rw [List.map_append]
                  exact .append (p3.mono (fun p hp => .tail _ hp)) (.one (.tuple (vs := [_, _]) (.head _) (.cons (.int _ _) (.cons (.int _ _) .nil))))
                · dsimp only
                  rw [List.append_assoc, ← p6, runs_yes k1 k0, List.drop_drop, show at_.toNat + runLen (zs.drop at_.toNat) = (at_ + (runLen (zs.drop at_.toNat) : Nat)).toNat by omega]; rfl
                · dsimp only
                  rw [List.length_append]; simp only [List.length_cons, List.length_nil]; omega
              · dsimp only; omega
            · have k0 : runLen (zs.drop at_.toNat) = 0 := by omega
              have k1 : 0 < (zs.drop at_.toNat).length := by rw [List.length_drop]; omega
              refine ksw_end ⟨at_ + 1, _, us9, n9, tl9, done9, _⟩ (by assumption) (by assumption) (fun p hp => List.mem_cons_of_mem _ hp) trivial (List.forall_mem_cons.mpr ⟨at_fix2 (a := at_ + 1) (e := at_ + (runLen (zs.drop at_.toNat) : Nat)) (by omega), List.forall_mem_nil _⟩) (by ksw_same) ?_ ?_
              · refine ⟨?_, ?_, p3, p4, p5, ?_, ?_, _, by assumption⟩
                · dsimp only; omega
                · dsimp only; omega
                · dsimp only
                  rw [← p6, runs_no k1 k0, List.drop_drop, show at_.toNat + 1 = (at_ + 1).toNat by omega]
                · dsimp only; omega
              · dsimp only; omega
            · have k1 : zs.drop at_.toNat = [] := List.drop_eq_nil_of_le (by omega)
              rw [k1, runs_nil, List.append_nil] at p6
              rename Fr _ _ _ _ => nF
              rename News _ _ _ _ => nN
              rename RunAll _ _ _ => dr9
              k_dflt (refine LCg.CompSrc.ledger rfl nF nN (.head _) (by rw [(run_rel dr9).1, sizeLine_eq]; have := runs_len zs; omega) ?_)
              intro g
              refine comp_dat (fun q v => RunIn _ v q) pairD (fun e => .inr ⟨_, List.mem_append_right _ (.head _), rfl, _, rfl⟩) (run_rel dr9).1 (run_rel dr9).2 (fun q v cur ys I oI C oC D m₂ h tk E' hq hr hsub hS hC hx F N off ne => ?_) ?_
              · obtain ⟨pp, dd, nn, e1, e2, e3, t1, t2, t3, ta9, tb9, v39, rfl, hm, hm2⟩ := hr
                have hm3 := hsub _ (.tail _ hm)
                have hm4 := hsub _ (.tail _ hm2)
                clear nF nN
                k_steps
                unfold Hold
                exact comp_end1 (by assumption) (by assumption) off (by assumption) hS (.tuple (vs := [_, _]) (.head _) (.cons (.int _ _) (.cons (.int _ _) .nil)))
              · intro ys9 own hd1
                clear nF nN
                k_steps
                unfold Hold
                rename News _ _ _ _ => nN
                obtain ⟨m9, sb9⟩ := fin_nN (R := tl9 ++ R1) nN
                rw [p6] at p3
                k_dflt (refine dat_eq nN (d := .list ((runs 0 zs).map pairD)) (.list (.head _) (hd1.mono fun p hp => .tail _ hp)) (.list m9 (p3.mono sb9)) (pairs_ok _) (by exact of_decide_eq_true rfl) ?_)
                k_steps
                unfold Hold
                k_dflt (refine tl_eq nN (ht1.mono fun p hp => sb9 p (List.mem_append_right _ hp)) (hw1.mono fun p hp => sb9 p (List.mem_append_right _ hp)) (by exact of_decide_eq_true rfl) ?_)
                rw [decide_eq_true rfl]
                k_steps
end
local macro_rules | `(tactic| walk_at "mine pad142") => `(tactic| skip)
local macro_rules | `(tactic| walk_at "mine pad143") => `(tactic| skip)
local macro_rules | `(tactic| walk_at "mine pad144") => `(tactic| skip)
local macro_rules | `(tactic| walk_at "mine pad145") => `(tactic| skip)
local macro_rules | `(tactic| walk_at "mine pad146") => `(tactic| skip)
local macro_rules | `(tactic| walk_at "mine pad147") => `(tactic| skip)
local macro_rules | `(tactic| walk_at "mine pad148") => `(tactic| skip)
local macro_rules | `(tactic| walk_at "mine pad149") => `(tactic| skip)
local macro_rules | `(tactic| walk_at "mine pad150") => `(tactic| skip)
local macro_rules | `(tactic| walk_at "mine pad151") => `(tactic| skip)
local macro_rules | `(tactic| walk_at "mine pad152") => `(tactic| skip)
local macro_rules | `(tactic| walk_at "mine pad153") => `(tactic| skip)
local macro_rules | `(tactic| walk_at "mine pad154") => `(tactic| skip)
local macro_rules | `(tactic| walk_at "mine pad155") => `(tactic| skip)
local macro_rules | `(tactic| walk_at "mine pad156") => `(tactic| skip)
local macro_rules | `(tactic| walk_at "mine pad157") => `(tactic| skip)
local macro_rules | `(tactic| walk_at "mine pad158") => `(tactic| skip)
local macro_rules | `(tactic| walk_at "mine pad159") => `(tactic| skip)
end Mine
theorem PySem.Challenge.cw_pq1302_01_holds : PySem.Challenge.rw_pq1302_01.Holds := by
  exact Mine.law_main
