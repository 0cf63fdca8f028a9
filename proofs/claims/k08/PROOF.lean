import PyProof.Rows.All
import Wide.All
import OpenK.AllK
import Wide.FinOn
import HandS.ForMost
import HandS.Flow
import HandS.Style
import HandS.IsInst
import HandS.Zip
import HandS.Evl
import HandS.Steps
import HandS.TupAny
import HandS.TupMul
import HandS.Deep
import HandS.Dict
import HandS.Text
import PySem.Challenge.RW_coverallrows_k08_whole_floors_by_turns_a
set_option Elab.async false
set_option linter.all false
set_option maxRecDepth 100000
set_option maxHeartbeats 4000000
/-! DL: a layer over the readings: data instead of heaps. -/
namespace DL
open PySem PySem.Spec PyProof.Rows L2

abbrev D := PyData
inductive Sl where
  | u
  | v (d : D)
  | o (d : D)
  | s (ns : List Int)
abbrev En := List Sl
abbrev ME (α : Type) := En → Option (α × En)

mutual
inductive Rp (K : PySem.W.Frag) (F : Hp) : V → D → Prop
  | non : Rp K F .non .none
  | bl (b : Bool) : Rp K F (.bl b) (.bool b)
  | int (i : Int) : Rp K F (.int i) (.int i)
  | str (x : Str) : Rp K F (.str x) (.str x)
  | lst {a : Addr} {xs : List V} {ds : List D} : F a = some (.lst xs) → RpAll K F xs ds → Rp K F (.ref a) (.list ds)
  | tup {a : Addr} {xs : List V} {ds : List D} : SqT K F a xs → RpAll K F xs ds → Rp K F (.ref a) (.tuple ds)
inductive RpAll (K : PySem.W.Frag) (F : Hp) : List V → List D → Prop
  | nil : RpAll K F [] []
  | cons {v : V} {vs : List V} {d : D} {ds : List D} : Rp K F v d → RpAll K F vs ds → RpAll K F (v :: vs) (d :: ds)
end

section
variable {K : PySem.W.Frag} {F F' H H' : Hp}
theorem Same.rd {a : Addr} {u : HO} (e : Same F H) (h : Rd F a u) : Rd H a u := by
  rcases h with h | ⟨o, h⟩
  · exact .inl (e _ _ h)
  · exact .inr ⟨o, e _ _ h⟩
theorem Same.sqt {a : Addr} {xs : List V} (e : Same F H) (h : SqT K F a xs) : SqT K H a xs := by
  rcases h with h | h
  · exact .inl (Same.rd e h)
  · exact .inr h
theorem Same.new {p : Addr} {o : HO} (h : H p = none) : Same H (upd H p o) := fun b x e => by
  rw [upd_ne (ne_of_none e h)]
  exact e
mutual
theorem Rp.mono (e : Same F F') : ∀ (d : D) (v : V), Rp K F v d → Rp K F' v d
  | .none, _, h => by cases h; exact .non
  | .bool b, _, h => by cases h; exact .bl b
  | .int i, _, h => by cases h; exact .int i
  | .str x, _, h => by cases h; exact .str x
  | .list ds, _, h => by
    cases h with
    | lst h1 h2 => exact .lst (e _ _ h1) (RpAll.mono e ds _ h2)
  | .tuple ds, _, h => by
    cases h with
    | tup h1 h2 => exact .tup (Same.sqt e h1) (RpAll.mono e ds _ h2)
  | .dict _, _, h => by cases h
theorem RpAll.mono (e : Same F F') : ∀ (ds : List D) (vs : List V), RpAll K F vs ds → RpAll K F' vs ds
  | [], _, h => by cases h; exact .nil
  | d :: ds, _, h => by
    cases h with
    | cons h1 h2 => exact .cons (Rp.mono e d _ h1) (RpAll.mono e ds _ h2)
end
mutual
theorem Rp.dp (e : Same F H) : ∀ (d : D) (v : V), Rp K F v d → Dp K H v d
  | .none, _, h => by cases h; exact .non
  | .bool b, _, h => by cases h; exact .bl b
  | .int i, _, h => by cases h; exact .int i
  | .str x, _, h => by cases h; exact .str x
  | .list ds, _, h => by
    cases h with
    | lst h1 h2 => exact .lst (.inl (.inl (e _ _ h1))) (RpAll.dp e ds _ h2)
  | .tuple ds, _, h => by
    cases h with
    | tup h1 h2 => exact .tup (Same.sqt e h1) (RpAll.dp e ds _ h2)
  | .dict _, _, h => by cases h
theorem RpAll.dp (e : Same F H) : ∀ (ds : List D) (vs : List V), RpAll K F vs ds → DpAll K H vs ds
  | [], _, h => by cases h; exact .nil
  | d :: ds, _, h => by
    cases h with
    | cons h1 h2 => exact .cons (Rp.dp e d _ h1) (RpAll.dp e ds _ h2)
end
theorem RpAll.len : ∀ {ds : List D} {vs : List V}, RpAll K F vs ds → vs.length = ds.length
  | [], _, h => by cases h; rfl
  | d :: ds, _, h => by
    cases h with
    | cons h1 h2 => simp [RpAll.len h2]
theorem RpAll.get : ∀ {ds : List D} {vs : List V} {i : Nat} {d : D}, RpAll K F vs ds → ds[i]? = some d → ∃ v, vs[i]? = some v ∧ Rp K F v d
  | [], _, _, _, h, e => by simp at e
  | d :: ds, _, 0, _, h, e => by
    cases h with
    | cons h1 h2 => simp at e; subst e; exact ⟨_, rfl, h1⟩
  | d :: ds, _, i + 1, _, h, e => by
    cases h with
    | cons h1 h2 =>
      obtain ⟨v, q1, q2⟩ := RpAll.get (i := i) h2 (by simpa using e)
      exact ⟨v, by simpa using q1, q2⟩
theorem RpAll.got : ∀ {ds : List D} {vs : List V} {i : Nat} {v : V}, RpAll K F vs ds → vs[i]? = some v → ∃ d, ds[i]? = some d ∧ Rp K F v d
  | [], _, _, _, h, e => by cases h; simp at e
  | d :: ds, _, 0, _, h, e => by
    cases h with
    | cons h1 h2 => simp at e; subst e; exact ⟨_, rfl, h1⟩
  | d :: ds, _, i + 1, _, h, e => by
    cases h with
    | cons h1 h2 =>
      obtain ⟨v, q1, q2⟩ := RpAll.got (i := i) h2 (by simpa using e)
      exact ⟨v, by simpa using q1, q2⟩
theorem RpAll.append : ∀ {ds es : List D} {vs ws : List V}, RpAll K F vs ds → RpAll K F ws es → RpAll K F (vs ++ ws) (ds ++ es)
  | [], _, _, _, h, g => by cases h; exact g
  | d :: ds, _, _, _, h, g => by
    cases h with
    | cons h1 h2 => exact .cons h1 (RpAll.append h2 g)
theorem RpAll.take : ∀ {ds : List D} {vs : List V} (n : Nat), RpAll K F vs ds → RpAll K F (vs.take n) (ds.take n)
  | _, _, 0, h => by simpa using .nil
  | [], _, n + 1, h => by cases h; exact .nil
  | d :: ds, _, n + 1, h => by
    cases h with
    | cons h1 h2 => exact .cons h1 (RpAll.take n h2)
theorem RpAll.drop : ∀ {ds : List D} {vs : List V} (n : Nat), RpAll K F vs ds → RpAll K F (vs.drop n) (ds.drop n)
  | _, _, 0, h => by simpa using h
  | [], _, n + 1, h => by cases h; exact .nil
  | d :: ds, _, n + 1, h => by
    cases h with
    | cons h1 h2 => exact RpAll.drop n h2
theorem RpAll.set : ∀ {ds : List D} {vs : List V} (n : Nat) {v : V} {d : D}, Rp K F v d → RpAll K F vs ds → RpAll K F (vs.set n v) (ds.set n d)
  | [], _, _, _, _, _, h => by cases h; exact .nil
  | d :: ds, _, 0, _, _, r, h => by
    cases h with
    | cons h1 h2 => exact .cons r h2
  | d :: ds, _, n + 1, _, _, r, h => by
    cases h with
    | cons h1 h2 => exact .cons h1 (RpAll.set n r h2)
theorem RpAll.reverse : ∀ {ds : List D} {vs : List V}, RpAll K F vs ds → RpAll K F vs.reverse ds.reverse
  | [], _, h => by cases h; exact .nil
  | d :: ds, _, h => by
    cases h with
    | cons h1 h2 => rw [List.reverse_cons, List.reverse_cons]; exact (RpAll.reverse h2).append (.cons h1 .nil)
theorem RpAll.rep {ds : List D} {vs : List V} (h : RpAll K F vs ds) : ∀ k : Nat, RpAll K F (List.replicate k vs).flatten (List.replicate k ds).flatten
  | 0 => .nil
  | k + 1 => by
    rw [List.replicate_succ, List.replicate_succ, List.flatten_cons, List.flatten_cons]
    exact h.append (RpAll.rep h k)
theorem RpAll.ints : ∀ {ns : List Int} {vs : List V}, RpAll K F vs (ns.map PyData.int) → vs = ns.map V.int
  | [], _, h => by cases h; rfl
  | n :: ns, _, h => by
    cases h with
    | cons h1 h2 => cases h1; rw [RpAll.ints h2]; rfl
theorem RpAll.bls : ∀ {ns : List Bool} {vs : List V}, RpAll K F vs (ns.map PyData.bool) → vs = ns.map V.bl
  | [], _, h => by cases h; rfl
  | n :: ns, _, h => by
    cases h with
    | cons h1 h2 => cases h1; rw [RpAll.bls h2]; rfl
theorem RpAll.strs : ∀ {ns : List Str} {vs : List V}, RpAll K F vs (ns.map PyData.str) → vs = ns.map V.str
  | [], _, h => by cases h; rfl
  | n :: ns, _, h => by
    cases h with
    | cons h1 h2 => cases h1; rw [RpAll.strs h2]; rfl
theorem RpAll.ofInts : ∀ (ns : List Int), RpAll K F (ns.map V.int) (ns.map PyData.int)
  | [] => .nil
  | n :: ns => .cons (.int n) (RpAll.ofInts ns)
theorem RpAll.ofStrs : ∀ (ns : List Str), RpAll K F (ns.map V.str) (ns.map PyData.str)
  | [] => .nil
  | n :: ns => .cons (.str n) (RpAll.ofStrs ns)
end

/-! ### new objects alone -/
structure New (F H F' H' : Hp) : Prop where
  ff : Same F F'
  fh : Same F' H'
  hh : Same H H'
  nw : ∀ b o, F' b = some o → F b = some o ∨ H b = none
theorem New.refl {F H : Hp} (e : Same F H) : New F H F H := ⟨Same.refl _, e, Same.refl _, fun _ _ h => .inl h⟩
theorem New.trans {F H F1 H1 F2 H2 : Hp} (a : New F H F1 H1) (b : New F1 H1 F2 H2) : New F H F2 H2 :=
  ⟨a.ff.trans b.ff, b.fh, a.hh.trans b.hh, fun c o h => by
    rcases b.nw c o h with h | h
    · exact a.nw c o h
    · exact .inr (a.hh.free h)⟩
/-- laid and frozen -/
theorem New.laid {F H : Hp} {p : Addr} {o : HO} (e : Same F H) (h : H p = none) : New F H (upd F p o) (upd H p o) :=
  ⟨Same.new (e.free h), fun b x q => by
      by_cases hb : b = p
      · subst hb; rw [upd_same] at q ⊢; exact q
      · rw [upd_ne hb] at q ⊢; exact e b x q,
    Same.new h, fun b x q => by
      by_cases hb : b = p
      · subst hb; exact .inr h
      · rw [upd_ne hb] at q; exact .inl q⟩
/-- laid, not frozen -/
theorem New.made {F H : Hp} {p : Addr} {o : HO} (e : Same F H) (h : H p = none) : New F H F (upd H p o) :=
  ⟨Same.refl _, e.trans (Same.new h), Same.new h, fun b x q => .inl q⟩
/-- frozen behind -/
theorem New.froze {F H F' H' : Hp} {p : Addr} {o : HO} (n : New F H F' H') (hf : F' p = none) (h : H p = none) (ho : H' p = some o) : New F H (upd F' p o) H' :=
  ⟨n.ff.trans (Same.new hf), fun b x q => by
      by_cases hb : b = p
      · subst hb; rw [upd_same] at q; rw [ho]; exact q
      · rw [upd_ne hb] at q; exact n.fh b x q,
    n.hh, fun b x q => by
      by_cases hb : b = p
      · subst hb; exact .inr h
      · rw [upd_ne hb] at q; exact n.nw b x q⟩

/-! ### the state -/
def keyD : Key → D
  | .inl i => .int i
  | .inr x => .str x
def KvR (K : PySem.W.Frag) (F : Hp) (ks : List (Key × V)) (kvs : List (D × D)) : Prop := Paired (fun (p : Key × V) (q : D × D) => q.1 = keyD p.1 ∧ Rp K F p.2 q.2) ks kvs
def KtR (K : PySem.W.Frag) (F : Hp) (ks : List (List Key × V)) (kvs : List (D × D)) : Prop := Paired (fun (p : List Key × V) (q : D × D) => q.1 = .tuple (p.1.map keyD) ∧ Rp K F p.2 q.2) ks kvs
def ObR (K : PySem.W.Frag) (F H : Hp) (a : Addr) : D → Prop
  | .list ds => ∃ xs, H a = some (.lst xs) ∧ RpAll K F xs ds
  | .dict kvs => (∃ ks, H a = some (.dK ks) ∧ KvR K F ks kvs) ∨ ∃ ks, H a = some (.dT ks) ∧ KtR K F ks kvs
  | _ => False
def SlotR (K : PySem.W.Frag) (F H : Hp) (x : Option V) : Sl → Prop
  | .u => True
  | .v d => ∃ v, x = some v ∧ Rp K F v d
  | .o d => ∃ a, x = some (.ref a) ∧ F a = none ∧ ObR K F H a d
  | .s ns => ∃ a, x = some (.ref a) ∧ SqL K F a (ns.map V.int)
structure Rn (K : PySem.W.Frag) (io : List Addr) (F : Hp) (σ : L2.St) (H : Hp) (e : En) : Prop where
  ex : Same F H
  len : σ.length = e.length
  sl : ∀ (i : Nat) (s : Sl), e[i]? = some s → ∃ x, σ[i]? = some x ∧ SlotR K F H x s
  ap : ∀ (i j : Nat) (a : Addr) (d d' : D), e[i]? = some (.o d) → e[j]? = some (.o d') → σ[i]? = some (some (.ref a)) → σ[j]? = some (some (.ref a)) → i = j
  io : ∀ (i : Nat) (a : Addr), io[i]? = some a → σ[i]? = some (some (.ref a))
def Own (σ : L2.St) (e : En) (b : Addr) : Prop := ∃ (i : Nat) (d : D), e[i]? = some (.o d) ∧ σ[i]? = some (some (.ref b))
structure Step (σ : L2.St) (e : En) (F H : Hp) (σ' : L2.St) (e' : En) (F' H' : Hp) : Prop where
  ex : Same F F'
  fr : ∀ b o, H b = some o → ¬ Own σ e b → H' b = some o
  nw : ∀ b o, F' b = some o → F b = some o ∨ H b = none ∨ Own σ e b
  ow : ∀ b, Own σ' e' b → Own σ e b ∨ H b = none
  dm : ∀ b, H' b = none → H b = none
theorem Step.refl {σ : L2.St} {e : En} {F H : Hp} : Step σ e F H σ e F H := ⟨Same.refl _, fun _ _ h _ => h, fun _ _ h => .inl h, fun _ h => .inl h, fun _ h => h⟩
theorem Step.trans {σ σ1 σ2 : L2.St} {e e1 e2 : En} {F F1 F2 H H1 H2 : Hp} (a : Step σ e F H σ1 e1 F1 H1) (b : Step σ1 e1 F1 H1 σ2 e2 F2 H2) : Step σ e F H σ2 e2 F2 H2 where
  ex := a.ex.trans b.ex
  fr := fun c o h n => b.fr c o (a.fr c o h n) fun z => by
    rcases a.ow c z with z | z
    · exact n z
    · rw [z] at h; cases h
  nw := fun c o h => by
    rcases b.nw c o h with h | h | h
    · exact a.nw c o h
    · exact .inr (.inl (a.dm c h))
    · rcases a.ow c h with h | h
      · exact .inr (.inr h)
      · exact .inr (.inl h)
  ow := fun c h => by
    rcases b.ow c h with h | h
    · exact a.ow c h
    · exact .inr (a.dm c h)
  dm := fun c h => a.dm c (b.dm c h)
section
variable {K : PySem.W.Frag} {io : List Addr} {F F' H H' : Hp} {σ : L2.St} {e : En}
theorem ObR.there {a : Addr} {d : D} (h : ObR K F H a d) : ∃ o, H a = some o := by
  cases d with
  | list ds => obtain ⟨xs, q, _⟩ := h; exact ⟨_, q⟩
  | dict kvs => rcases h with ⟨ks, q, _⟩ | ⟨ks, q, _⟩ <;> exact ⟨_, q⟩
  | none => exact h.elim
  | bool => exact h.elim
  | int => exact h.elim
  | str => exact h.elim
  | tuple => exact h.elim
theorem paired_map {α β : Type} {R S : α → β → Prop} : ∀ {l₁ : List α} {l₂ : List β}, Paired R l₁ l₂ → (∀ a b, R a b → S a b) → Paired S l₁ l₂
  | _, _, .nil, _ => .nil
  | _, _, .cons r t, f => .cons (f _ _ r) (paired_map t f)
theorem ObR.mono {a : Addr} {d : D} (h : ObR K F H a d) (e : Same F F') (he : H' a = H a) : ObR K F' H' a d := by
  cases d with
  | list ds => obtain ⟨xs, q, r⟩ := h; exact ⟨xs, he.trans q, RpAll.mono e _ _ r⟩
  | dict kvs =>
    rcases h with ⟨ks, q, r⟩ | ⟨ks, q, r⟩
    · exact .inl ⟨ks, he.trans q, paired_map r fun p q z => ⟨z.1, Rp.mono e _ _ z.2⟩⟩
    · exact .inr ⟨ks, he.trans q, paired_map r fun p q z => ⟨z.1, Rp.mono e _ _ z.2⟩⟩
  | none => exact h.elim
  | bool => exact h.elim
  | int => exact h.elim
  | str => exact h.elim
  | tuple => exact h.elim
theorem Same.sql {a : Addr} {xs : List V} (e : Same F H) (h : SqL K F a xs) : SqL K H a xs := by
  rcases h with h | h
  · exact .inl (Same.rd e h)
  · exact .inr h
theorem SlotR.mono {x : Option V} {s : Sl} (h : SlotR K F H x s) (e : Same F F') (ho : ∀ d a, s = .o d → x = some (.ref a) → F' a = none ∧ H' a = H a) : SlotR K F' H' x s := by
  cases s with
  | u => trivial
  | v d => obtain ⟨v, q, r⟩ := h; exact ⟨v, q, Rp.mono e _ _ r⟩
  | o d =>
    obtain ⟨a, q, f, r⟩ := h
    obtain ⟨h1, h2⟩ := ho d a rfl q
    exact ⟨a, q, h1, r.mono e h2⟩
  | s ns => obtain ⟨a, q, r⟩ := h; exact ⟨a, q, Same.sql e r⟩
/-- what an owned slot tells -/
theorem Rn.own (R : Rn K io F σ H e) {i : Nat} {d : D} (h : e[i]? = some (.o d)) : ∃ a, σ[i]? = some (some (.ref a)) ∧ F a = none ∧ ObR K F H a d ∧ Own σ e a := by
  obtain ⟨x, q, a, rfl, f, r⟩ := R.sl i _ h
  exact ⟨a, q, f, r, i, d, h, q⟩
theorem Rn.val (R : Rn K io F σ H e) {i : Nat} {d : D} (h : e[i]? = some (.v d)) : ∃ v, σ[i]? = some (some v) ∧ Rp K F v d := by
  obtain ⟨x, q, v, rfl, r⟩ := R.sl i _ h
  exact ⟨v, q, r⟩
theorem Rn.owned (R : Rn K io F σ H e) {a : Addr} (h : Own σ e a) : F a = none ∧ ∃ o, H a = some o := by
  obtain ⟨i, d, h1, h2⟩ := h
  obtain ⟨x, q, b, rfl, f, r⟩ := R.sl i _ h1
  rw [h2] at q
  cases q
  exact ⟨f, r.there⟩
theorem Rn.up (R : Rn K io F σ H e) (ff : Same F F') (fh : Same F' H') (ho : ∀ a, Own σ e a → F' a = none ∧ H' a = H a) : Rn K io F' σ H' e where
  ex := fh
  len := R.len
  sl := fun i s h => by
    obtain ⟨x, q, r⟩ := R.sl i s h
    refine ⟨x, q, r.mono ff fun d a e1 e2 => ?_⟩
    subst e1 e2
    exact ho a ⟨i, d, h, q⟩
  ap := R.ap
  io := R.io
theorem Rn.new (R : Rn K io F σ H e) (n : New F H F' H') : Rn K io F' σ H' e ∧ Step σ e F H σ e F' H' := by
  have ho : ∀ a, Own σ e a → F' a = none ∧ H' a = H a := fun a h => by
    obtain ⟨f, o, q⟩ := R.owned h
    refine ⟨?_, (n.hh _ _ q).trans q.symm⟩
    cases z : F' a with
    | none => rfl
    | some u =>
      rcases n.nw a u z with y | y
      · rw [f] at y; cases y
      · rw [q] at y; cases y
  exact ⟨R.up n.ff n.fh ho, n.ff, fun b o h _ => n.hh b o h, fun b o h => (n.nw b o h).imp id .inl, fun b h => .inl h, fun b h => n.hh.free h⟩
theorem Step.new {σ' : L2.St} {e' : En} (s : Step σ e F H σ' e' F' H') {F2 H2 : Hp} (n : New F' H' F2 H2) : Step σ e F H σ' e' F2 H2 :=
  s.trans ⟨n.ff, fun b o h _ => n.hh b o h, fun b o h => (n.nw b o h).imp id .inl, fun b h => .inl h, fun b h => n.hh.free h⟩
/-- not owned: kept -/
theorem Step.kept {σ' : L2.St} {e' : En} (s : Step σ e F H σ' e' F' H') {p : Addr} {o : HO} (f : F p = none) (h : H p = some o) (n : ¬ Own σ e p) : F' p = none ∧ H' p = some o ∧ ¬ Own σ' e' p := by
  refine ⟨?_, s.fr p o h n, fun z => ?_⟩
  · cases z : F' p with
    | none => rfl
    | some u =>
      rcases s.nw p u z with y | y | y
      · rw [f] at y; cases y
      · rw [h] at y; cases y
      · exact absurd y n
  · rcases s.ow p z with y | y
    · exact n y
    · rw [h] at y; cases y
end

/-! ### monad -/
def bd {α β : Type} (m : ME α) (f : α → ME β) : ME β := fun e => match m e with
  | some (a, e1) => f a e1
  | none => none
def rt {α : Type} (a : α) : ME α := fun e => some (a, e)
def lf {α : Type} (o : Option α) : ME α := fun e => match o with
  | some a => some (a, e)
  | none => none
theorem bd_some {α β : Type} {m : ME α} {f : α → ME β} {e e2 : En} {b : β} (h : bd m f e = some (b, e2)) : ∃ a e1, m e = some (a, e1) ∧ f a e1 = some (b, e2) := by
  unfold bd at h
  cases q : m e with
  | none => rw [q] at h; cases h
  | some p => obtain ⟨a, e1⟩ := p; rw [q] at h; exact ⟨a, e1, rfl, h⟩
theorem lf_some {α : Type} {o : Option α} {e e2 : En} {b : α} (h : lf o e = some (b, e2)) : o = some b ∧ e2 = e := by
  unfold lf at h
  cases q : o with
  | none => rw [q] at h; cases h
  | some p => rw [q] at h; cases h; exact ⟨rfl, rfl⟩

/-! ### the judgements -/
def DEr (K : PySem.W.Frag) (n : Nat) (t : TE) (f : ME D) : Prop :=
  ∀ io F σ H e d e', io.length = n → Rn K io F σ H e → f e = some (d, e') → ∀ Q : VK, (∀ x F' H', Rn K io F' σ H' e' → Step σ e F H σ e' F' H' → Rp K F' x d → Q x H') → t σ H Q
def DNr (K : PySem.W.Frag) (n : Nat) (t : TE) (f : ME (List D)) : Prop :=
  ∀ io F σ H e d e', io.length = n → Rn K io F σ H e → f e = some (d, e') → ∀ Q : VK, (∀ p F' H' xs, Rn K io F' σ H' e' → Step σ e F H σ e' F' H' → F' p = none → H p = none → ¬ Own σ e' p → H' p = some (.lst xs) → RpAll K F' xs d → Q (.ref p) H') → t σ H Q
def DTr (K : PySem.W.Frag) (n : Nat) (t : TT) (f : ME Bool) : Prop :=
  ∀ io F σ H e b e', io.length = n → Rn K io F σ H e → f e = some (b, e') → ∀ Q : Bool → Hp → Prop, (∀ F' H', Rn K io F' σ H' e' → Step σ e F H σ e' F' H' → Q b H') → t σ H Q
def DAr (K : PySem.W.Frag) (n : Nat) (t : TA) (f : ME (List D)) : Prop :=
  ∀ io F σ H e ds e', io.length = n → Rn K io F σ H e → f e = some (ds, e') → ∀ Q : List V → Hp → Prop, (∀ xs F' H', Rn K io F' σ H' e' → Step σ e F H σ e' F' H' → RpAll K F' xs ds → Q xs H') → t σ H Q
def DOr (K : PySem.W.Frag) (n : Nat) (t : TO) (f : ME (Option Int)) : Prop :=
  ∀ io F σ H e b e', io.length = n → Rn K io F σ H e → f e = some (b, e') → ∀ Q : Option Int → Hp → Prop, (∀ F' H', Rn K io F' σ H' e' → Step σ e F H σ e' F' H' → Q b H') → t σ H Q
structure DE (X : Cx) (n : Nat) (a : Expr) (f : ME D) : Prop where
  ex : ∃ t, PE X a t ∧ DEr X.K n t f
structure DN (X : Cx) (n : Nat) (a : Expr) (f : ME (List D)) : Prop where
  ex : ∃ t, PE X a t ∧ DNr X.K n t f
structure DT (X : Cx) (n : Nat) (a : Expr) (f : ME Bool) : Prop where
  ex : ∃ t, PT X a t ∧ DTr X.K n t f
structure DW (X : Cx) (n : Nat) (a : Expr) (f : ME Bool) : Prop where
  ex : ∃ t, PW X a t ∧ DTr X.K n t f
structure DA (X : Cx) (n : Nat) (a : List Expr) (f : ME (List D)) : Prop where
  ex : ∃ t, PA X a t ∧ DAr X.K n t f
structure DO (X : Cx) (n : Nat) (a : Option Expr) (f : ME (Option Int)) : Prop where
  ex : ∃ t, PO X a t ∧ DOr X.K n t f

inductive Fl where
  | nx
  | bk
  | ct
  | rt (d : D)
  | rn (d : D)
/-- what an end asks -/
def EndR (K : PySem.W.Frag) (io : List Addr) (D : Ends) (σ : L2.St) (e : En) (F H : Hp) (e' : En) : Fl → Prop
  | .nx => ∀ σ' F' H', Rn K io F' σ' H' e' → Step σ e F H σ' e' F' H' → D.nx σ' H'
  | .bk => ∀ σ' F' H', Rn K io F' σ' H' e' → Step σ e F H σ' e' F' H' → D.bk σ' H'
  | .ct => ∀ σ' F' H', Rn K io F' σ' H' e' → Step σ e F H σ' e' F' H' → D.ct σ' H'
  | .rt d => ∀ x σ' F' H', Rn K io F' σ' H' e' → Step σ e F H σ' e' F' H' → Rp K F' x d → D.rt x H'
  | .rn d => ∀ p σ' F' H', Rn K io F' σ' H' e' → Step σ e F H σ' e' F' H' → F' p = none → (Own σ e p ∨ H p = none) → ¬ Own σ' e' p → ObR K F' H' p d → D.rt (.ref p) H'
def DSr (K : PySem.W.Frag) (n : Nat) (t : TS) (f : ME Fl) : Prop :=
  ∀ io F σ H e fl e', io.length = n → Rn K io F σ H e → f e = some (fl, e') → ∀ D : Ends, EndR K io D σ e F H e' fl → t D σ H
structure DS (X : Cx) (n : Nat) (a : Stmt) (f : ME Fl) : Prop where
  ex : ∃ t, PS X a t ∧ DSr X.K n t f
structure DB (X : Cx) (n : Nat) (a : List Stmt) (f : ME Fl) : Prop where
  ex : ∃ t, PSs X a t ∧ DSr X.K n t f
/-- σ' is σ but at ts -/
def OnlyAt (ts : List Nat) (σ σ' : L2.St) : Prop := σ'.length = σ.length ∧ ∀ j, j ∉ ts → σ'[j]? = σ[j]?
theorem OnlyAt.trans {ts us : List Nat} {a b c : L2.St} (h : OnlyAt ts a b) (g : OnlyAt us b c) : OnlyAt (ts ++ us) a c :=
  ⟨g.1.trans h.1, fun j hj => (g.2 j fun z => hj (by simp [z])).trans (h.2 j fun z => hj (by simp [z]))⟩
def DGr (K : PySem.W.Frag) (n : Nat) (ts : List Nat) (t : TG) (g : D → En → Option En) : Prop :=
  ∀ io F σ H e e' x d, io.length = n → Rn K io F σ H e → Rp K F x d → g d e = some e' → ∀ Q : L2.St → Hp → Prop, (∀ σ' F' H', Rn K io F' σ' H' e' → Step σ e F H σ' e' F' H' → OnlyAt ts σ σ' → Q σ' H') → t x σ H Q
structure DG (X : Cx) (n : Nat) (ts : List Nat) (a : Expr) (g : D → En → Option En) : Prop where
  ex : ∃ t, PG X a t ∧ DGr X.K n ts t g
end DL

namespace DL
open PySem PySem.Spec PyProof.Rows L2

/-! ### op-level -/
def OpD (K : PySem.W.Frag) (r : R2) (g : D → D → Option D) : Prop :=
  ∀ F H x y d1 d2 d, Same F H → Rp K F x d1 → Rp K F y d2 → g d1 d2 = some d → ∀ Q : VK, (∀ z F' H', New F H F' H' → Rp K F' z d → Q z H') → r x y H Q
def OpN (K : PySem.W.Frag) (r : R2) (g : D → D → Option (List D)) : Prop :=
  ∀ F H x y d1 d2 ds, Same F H → Rp K F x d1 → Rp K F y d2 → g d1 d2 = some ds → ∀ Q : VK, (∀ p F' H' xs, New F H F' H' → F' p = none → H p = none → H' p = some (.lst xs) → RpAll K F' xs ds → Q (.ref p) H') → r x y H Q
def UnD (K : PySem.W.Frag) (r : V → Hp → VK → Prop) (g : D → Option D) : Prop :=
  ∀ F H x d1 d, Same F H → Rp K F x d1 → g d1 = some d → ∀ Q : VK, (∀ z F' H', New F H F' H' → Rp K F' z d → Q z H') → r x H Q
def ClD (K : PySem.W.Frag) (r : List V → Hp → VK → Prop) (g : List D → Option D) : Prop :=
  ∀ F H xs ds d, Same F H → RpAll K F xs ds → g ds = some d → ∀ Q : VK, (∀ z F' H', New F H F' H' → Rp K F' z d → Q z H') → r xs H Q
def ClN (K : PySem.W.Frag) (r : List V → Hp → VK → Prop) (g : List D → Option (List D)) : Prop :=
  ∀ F H xs ds es, Same F H → RpAll K F xs ds → g ds = some es → ∀ Q : VK, (∀ p F' H' ys, New F H F' H' → F' p = none → H p = none → H' p = some (.lst ys) → RpAll K F' ys es → Q (.ref p) H') → r xs H Q
def SlD (K : PySem.W.Frag) (r : V → Option Int → Option Int → Hp → VK → Prop) (g : D → Option Int → Option Int → Option D) : Prop :=
  ∀ F H x d1 lo hi d, Same F H → Rp K F x d1 → g d1 lo hi = some d → ∀ Q : VK, (∀ z F' H', New F H F' H' → Rp K F' z d → Q z H') → r x lo hi H Q
def SlN (K : PySem.W.Frag) (r : V → Option Int → Option Int → Hp → VK → Prop) (g : D → Option Int → Option Int → Option (List D)) : Prop :=
  ∀ F H x d1 lo hi es, Same F H → Rp K F x d1 → g d1 lo hi = some es → ∀ Q : VK, (∀ p F' H' ys, New F H F' H' → F' p = none → H p = none → H' p = some (.lst ys) → RpAll K F' ys es → Q (.ref p) H') → r x lo hi H Q
/-- frozen -/
theorem frz {K : PySem.W.Frag} {F H F' H' : Hp} {p : Addr} {xs : List V} {ds : List D} (n : New F H F' H') (h1 : F' p = none) (h2 : H p = none) (h3 : H' p = some (.lst xs)) (h4 : RpAll K F' xs ds) :
    ∃ F2, New F H F2 H' ∧ Rp K F2 (.ref p) (.list ds) :=
  ⟨_, n.froze h1 h2 h3, .lst upd_same (RpAll.mono (Same.new h1) _ _ h4)⟩
/-! ### what is done with data -/
def big : Nat := 1000000
theorem big_le {n : Nat} (h : n ≤ 1000000) : n ≤ sizeLine := Nat.le_trans h (by decide)
def sm (i : Int) : Bool := decide (-(2 ^ 64) < i ∧ i < 2 ^ 64)
def addD : D → D → Option D
  | .int i, .int j => some (.int (i + j))
  | .str a, .str b => if a.length + b.length ≤ 1000000 then some (.str (a ++ b)) else none
  | .tuple a, .tuple b => if a.length + b.length ≤ 1000000 then some (.tuple (a ++ b)) else none
  | _, _ => none
def subD : D → D → Option D
  | .int i, .int j => some (.int (i - j))
  | _, _ => none
def mulD : D → D → Option D
  | .int i, .int j => if (sm i || sm j) = true then some (.int (i * j)) else none
  | _, _ => none
def fdivD : D → D → Option D
  | .int i, .int j => if 0 < j ∧ j < 1073741824 then some (.int (i / j)) else none
  | _, _ => none
def modD : D → D → Option D
  | .int i, .int j => if 0 < j then some (.int (i % j)) else none
  | _, _ => none
def powD : D → D → Option D
  | .int i, .int j => if 0 ≤ j ∧ j ≤ 1000000 ∧ i.natAbs < 2 ^ 64 then some (.int (i ^ j.toNat)) else none
  | _, _ => none
def eqD : D → D → Option D
  | .str a, .str b => some (.bool (decide (a = b)))
  | x, y => if (SeqAt.shaped x && SeqAt.shaped y) = true then some (.bool (PyData.eqv x y)) else none
def neD : D → D → Option D
  | .str a, .str b => some (.bool (!decide (a = b)))
  | x, y => if (SeqAt.shaped x && SeqAt.shaped y) = true then some (.bool (!PyData.eqv x y)) else none
def ltD : D → D → Option D
  | .int i, .int j => some (.bool (decide (i < j)))
  | .str i, .str j => some (.bool (decide (i.cps.toList < j.cps.toList)))
  | _, _ => none
def leD : D → D → Option D
  | .int i, .int j => some (.bool (decide (i ≤ j)))
  | _, _ => none
def gtD : D → D → Option D
  | .int i, .int j => some (.bool (decide (j < i)))
  | _, _ => none
def geD : D → D → Option D
  | .int i, .int j => some (.bool (decide (j ≤ i)))
  | _, _ => none
def isNoneB : D → Bool
  | .none => true
  | _ => false
def isD : D → D → Option D
  | .bool a, .bool b => some (.bool (a == b))
  | x, .none => some (.bool (isNoneB x))
  | _, _ => none
def isNotD : D → D → Option D
  | .bool a, .bool b => some (.bool (!(a == b)))
  | x, .none => some (.bool (!isNoneB x))
  | _, _ => none
def negD : D → Option D
  | .int i => some (.int (-i))
  | _ => none

section
variable {X : Cx} {K : PySem.W.Frag}
theorem rp_int {F : Hp} {v : V} {i : Int} (h : Rp K F v (.int i)) : v = .int i := by cases h; rfl
theorem rp_bool {F : Hp} {v : V} {i : Bool} (h : Rp K F v (.bool i)) : v = .bl i := by cases h; rfl
theorem rp_str {F : Hp} {v : V} {i : Str} (h : Rp K F v (.str i)) : v = .str i := by cases h; rfl
theorem rp_none {F : Hp} {v : V} (h : Rp K F v .none) : v = .non := by cases h; rfl
theorem rp_list {F : Hp} {v : V} {ds : List D} (h : Rp K F v (.list ds)) : ∃ a xs, v = .ref a ∧ F a = some (.lst xs) ∧ RpAll K F xs ds := by cases h with | lst h1 h2 => exact ⟨_, _, rfl, h1, h2⟩
theorem rp_tup {F : Hp} {v : V} {ds : List D} (h : Rp K F v (.tuple ds)) : ∃ a xs, v = .ref a ∧ SqT K F a xs ∧ RpAll K F xs ds := by cases h with | tup h1 h2 => exact ⟨_, _, rfl, h1, h2⟩
theorem rp_non_iff {F : Hp} {v : V} {d : D} (h : Rp K F v d) : decide (v = .non) = isNoneB d := by
  cases h <;> first | rfl | exact decide_eq_false (by intro z; cases z)
theorem sqt_of {F H : Hp} {a : Addr} {xs : List V} (e : Same F H) (h : SqT K F a xs) : SqT K H a xs := Same.sqt e h
theorem sql_of {F H : Hp} {a : Addr} {xs : List V} (e : Same F H) (h : F a = some (.lst xs)) : SqL K H a xs := .inl (.inl (e _ _ h))
theorem nil_of {xs : List V} {ds : List D} {F : Hp} (h : RpAll K F xs ds) : xs = [] ↔ ds = [] := by
  cases h with
  | nil => simp
  | cons _ _ => simp


/-! ### the operators -/
def rAddA (K : PySem.W.Frag) : R2 := fun x y H Q => (((rI0 fun i j => .int (i + j)) x y H Q ∨ (∃ i j, x = .str i ∧ y = .str j ∧ i.length + j.length ≤ sizeLine ∧ Q (.str (i ++ j)) H)) ∨ rCatA K x y H Q) ∨ rCat x y H Q
theorem op_addA : OpR X (binaryOp .Add) (rAddA X.K) := ((OpR.or op_add op_add_str).or op_catA).or op_cat
theorem upd_froze {F H : Hp} {p : Addr} {o : HO} : upd F p o p = some o := upd_same
theorem laidL {F H : Hp} {p : Addr} {xs : List V} {ds : List D} (e : Same F H) (h : H p = none) (r : RpAll K F xs ds) : New F H (upd F p (.lst xs)) (upd H p (.lst xs)) ∧ Rp K (upd F p (.lst xs)) (.ref p) (.list ds) :=
  ⟨New.laid e h, .lst upd_same (RpAll.mono (Same.new (e.free h)) _ _ r)⟩
theorem laidT {F H : Hp} {p : Addr} {xs : List V} {ds : List D} (e : Same F H) (h : H p = none) (r : RpAll K F xs ds) : New F H (upd F p (.tup xs)) (upd H p (.tup xs)) ∧ Rp K (upd F p (.tup xs)) (.ref p) (.tuple ds) :=
  ⟨New.laid e h, .tup (.inl (.inl upd_same)) (RpAll.mono (Same.new (e.free h)) _ _ r)⟩
def addA : D → D → Option D
  | .int i, .int j => some (.int (i + j))
  | .str a, .str b => if a.length + b.length ≤ 1000000 then some (.str (a ++ b)) else none
  | .tuple a, .tuple b => if a.length + b.length ≤ 1000000 then some (.tuple (a ++ b)) else none
  | .list a, .list b => if a.length + b.length ≤ 1000000 then some (.list (a ++ b)) else none
  | _, _ => none
theorem od_add : OpD K (rAddA K) addA := by
  intro F H x y d1 d2 d e h1 h2 hg Q q
  unfold addA at hg
  split at hg
  · cases hg
    rw [rp_int h1, rp_int h2]
    exact .inl (.inl (.inl ⟨_, _, rfl, rfl, q _ F H (New.refl e) (.int _)⟩))
  · split at hg
    · cases hg
      rename_i hz
      rw [rp_str h1, rp_str h2]
      exact .inl (.inl (.inr ⟨_, _, rfl, rfl, big_le hz, q _ F H (New.refl e) (.str _)⟩))
    · cases hg
  · split at hg
    · cases hg
      rename_i a b hz
      obtain ⟨p1, xs, rfl, s1, r1⟩ := rp_tup h1
      obtain ⟨p2, ys, rfl, s2, r2⟩ := rp_tup h2
      have hz' : xs.length + ys.length ≤ sizeLine := by rw [r1.len, r2.len]; exact big_le hz
      refine .inl (.inr ⟨p1, p2, xs, ys, rfl, rfl, Same.sqt e s1, Same.sqt e s2, hz', fun z => ?_, fun z z2 => ?_, fun _ _ p hp => ?_⟩)
      · have e1 := (nil_of r1).mp z
        subst e1
        exact q _ F H (New.refl e) (by simpa using h2)
      · have e1 := (nil_of r2).mp z2
        subst e1
        exact q _ F H (New.refl e) (by simpa using h1)
      · obtain ⟨n, r⟩ := laidT e hp (r1.append r2)
        exact q _ _ _ n r
    · cases hg
  · split at hg
    · cases hg
      rename_i a b hz
      obtain ⟨p1, xs, rfl, s1, r1⟩ := rp_list h1
      obtain ⟨p2, ys, rfl, s2, r2⟩ := rp_list h2
      have hz' : xs.length + ys.length ≤ sizeLine := by rw [r1.len, r2.len]; exact big_le hz
      refine .inr ⟨p1, p2, xs, ys, rfl, rfl, e _ _ s1, e _ _ s2, hz', fun p hp => ?_⟩
      obtain ⟨n, r⟩ := laidL e hp (r1.append r2)
      exact q _ _ _ n r
    · cases hg
  · cases hg
def catL : D → D → Option (List D)
  | .list a, .list b => if a.length + b.length ≤ 1000000 then some (a ++ b) else none
  | _, _ => none
theorem on_cat : OpN K rCat catL := by
  intro F H x y d1 d2 d e h1 h2 hg Q q
  unfold catL at hg
  split at hg
  · split at hg
    · cases hg
      rename_i a b hz
      obtain ⟨p1, xs, rfl, s1, r1⟩ := rp_list h1
      obtain ⟨p2, ys, rfl, s2, r2⟩ := rp_list h2
      have hz' : xs.length + ys.length ≤ sizeLine := by rw [r1.len, r2.len]; exact big_le hz
      exact ⟨p1, p2, xs, ys, rfl, rfl, e _ _ s1, e _ _ s2, hz', fun p hp => q p F _ _ (New.made e hp) (e.free hp) hp upd_same (r1.append r2)⟩
    · cases hg
  · cases hg
theorem od_sub : OpD K (rI0 fun i j => .int (i - j)) subD := by
  intro F H x y d1 d2 d e h1 h2 hg Q q
  unfold subD at hg
  split at hg
  · cases hg
    rw [rp_int h1, rp_int h2]
    exact ⟨_, _, rfl, rfl, q _ F H (New.refl e) (.int _)⟩
  · cases hg
def rMulA (K : PySem.W.Frag) : R2 := fun x y H Q => ((rI CMul fun i j => .int (i * j)) x y H Q ∨ rRep x y H Q) ∨ rRepT K x y H Q
theorem op_mulA : OpR X (binaryOp .Mult) (rMulA X.K) := (OpR.or op_mul op_rep).or op_repT
def mulA : D → D → Option D
  | .int i, .int j => if (sm i || sm j) = true then some (.int (i * j)) else none
  | .list a, .int k => if -1000 ≤ k ∧ k ≤ 1000 ∧ a.length ≤ 1000 then some (.list (List.replicate k.toNat a).flatten) else none
  | .tuple a, .int k => if 2 ≤ k ∧ k ≤ 1000 ∧ a.length ≤ 1000 ∧ a ≠ [] then some (.tuple (List.replicate k.toNat a).flatten) else none
  | _, _ => none
theorem sm_ok {i j : Int} (h : (sm i || sm j) = true) : CMul i j := by
  unfold sm at h
  simp only [Bool.or_eq_true, decide_eq_true_eq] at h
  exact h
theorem rep_le {a k : Nat} (h1 : a ≤ 1000) (h2 : k ≤ 1000) : a * k ≤ sizeLine := big_le (Nat.le_trans (Nat.mul_le_mul h1 h2) (by decide))
theorem od_mul : OpD K (rMulA K) mulA := by
  intro F H x y d1 d2 d e h1 h2 hg Q q
  unfold mulA at hg
  split at hg
  · split at hg
    · cases hg
      rename_i hz
      rw [rp_int h1, rp_int h2]
      exact .inl (.inl ⟨_, _, rfl, rfl, sm_ok hz, q _ F H (New.refl e) (.int _)⟩)
    · cases hg
  · split at hg
    · cases hg
      rename_i a k hz
      obtain ⟨p1, xs, rfl, s1, r1⟩ := rp_list h1
      rw [rp_int h2]
      refine .inl (.inr ⟨p1, k, xs, rfl, rfl, e _ _ s1, by omega, by omega, ?_, fun p hp => ?_⟩)
      · rw [r1.len]; exact rep_le hz.2.2 (by omega)
      · obtain ⟨n, r⟩ := laidL e hp (r1.rep k.toNat)
        exact q _ _ _ n r
    · cases hg
  · split at hg
    · cases hg
      rename_i a k hz
      obtain ⟨p1, xs, rfl, s1, r1⟩ := rp_tup h1
      rw [rp_int h2]
      refine .inr ⟨p1, k, xs, rfl, rfl, Same.sqt e s1, fun z => hz.2.2.2 ((nil_of r1).mp z), hz.1, hz.2.1, by rw [r1.len]; exact hz.2.2.1, fun p hp => ?_⟩
      obtain ⟨n, r⟩ := laidT e hp (r1.rep k.toNat)
      exact q _ _ _ n r
    · cases hg
  · cases hg
def repL : D → D → Option (List D)
  | .list a, .int k => if -1000 ≤ k ∧ k ≤ 1000 ∧ a.length ≤ 1000 then some (List.replicate k.toNat a).flatten else none
  | _, _ => none
theorem on_rep : OpN K rRep repL := by
  intro F H x y d1 d2 d e h1 h2 hg Q q
  unfold repL at hg
  split at hg
  · split at hg
    · cases hg
      rename_i a k hz
      obtain ⟨p1, xs, rfl, s1, r1⟩ := rp_list h1
      rw [rp_int h2]
      refine ⟨p1, k, xs, rfl, rfl, e _ _ s1, by omega, by omega, ?_, fun p hp => q p F _ _ (New.made e hp) (e.free hp) hp upd_same (r1.rep k.toNat)⟩
      rw [r1.len]; exact rep_le hz.2.2 (by omega)
    · cases hg
  · cases hg
theorem od_fdiv : OpD K (rI CDiv fun i j => .int (i / j)) fdivD := by
  intro F H x y d1 d2 d e h1 h2 hg Q q
  unfold fdivD at hg
  split at hg
  · split at hg
    · cases hg
      rename_i hz
      rw [rp_int h1, rp_int h2]
      exact ⟨_, _, rfl, rfl, hz, q _ F H (New.refl e) (.int _)⟩
    · cases hg
  · cases hg
theorem od_mod : OpD K (rI (fun _ j => 0 < j) fun i j => .int (i % j)) modD := by
  intro F H x y d1 d2 d e h1 h2 hg Q q
  unfold modD at hg
  split at hg
  · split at hg
    · cases hg
      rename_i hz
      rw [rp_int h1, rp_int h2]
      exact ⟨_, _, rfl, rfl, hz, q _ F H (New.refl e) (.int _)⟩
    · cases hg
  · cases hg
theorem od_pow : OpD K (rI CPow fun i j => .int (i ^ j.toNat)) powD := by
  intro F H x y d1 d2 d e h1 h2 hg Q q
  unfold powD at hg
  split at hg
  · split at hg
    · cases hg
      rename_i hz
      rw [rp_int h1, rp_int h2]
      exact ⟨_, _, rfl, rfl, hz, q _ F H (New.refl e) (.int _)⟩
    · cases hg
  · cases hg
def rEqA (K : PySem.W.Frag) : R2 := fun x y H Q => rEqD K x y H Q ∨ rEq x y H Q
def rNeA (K : PySem.W.Frag) : R2 := fun x y H Q => rNeD K x y H Q ∨ rNe x y H Q
theorem op_eqA (hu : X.A.units + 64 < cLine) : OpR X (compareOp .Eq) (rEqA X.K) := OpR.or (op_eqD hu) op_eq
theorem op_neA (hu : X.A.units + 64 < cLine) : OpR X (compareOp .NotEq) (rNeA X.K) := OpR.or (op_neD hu) op_ne
theorem dec_strV (a b : Str) : decide (V.str a = V.str b) = decide (a = b) := by
  by_cases h : a = b
  · subst h; simp
  · rw [decide_eq_false h]
    exact decide_eq_false fun z => h (V.str.inj z)
theorem od_eq : OpD K (rEqA K) eqD := by
  intro F H x y d1 d2 d e h1 h2 hg Q q
  unfold eqD at hg
  split at hg
  · cases hg
    rw [rp_str h1, rp_str h2]
    exact .inr ⟨rfl, by rw [dec_strV]; exact q _ F H (New.refl e) (.bl _)⟩
  · split at hg
    · cases hg
      rename_i hz
      rw [Bool.and_eq_true] at hz
      exact .inl ⟨d1, d2, Rp.dp e _ _ h1, Rp.dp e _ _ h2, hz.1, hz.2, q _ F H (New.refl e) (.bl _)⟩
    · cases hg
theorem od_ne : OpD K (rNeA K) neD := by
  intro F H x y d1 d2 d e h1 h2 hg Q q
  unfold neD at hg
  split at hg
  · cases hg
    rw [rp_str h1, rp_str h2]
    exact .inr ⟨rfl, by rw [dec_strV]; exact q _ F H (New.refl e) (.bl _)⟩
  · split at hg
    · cases hg
      rename_i hz
      rw [Bool.and_eq_true] at hz
      exact .inl ⟨d1, d2, Rp.dp e _ _ h1, Rp.dp e _ _ h2, hz.1, hz.2, q _ F H (New.refl e) (.bl _)⟩
    · cases hg
def rLtA : R2 := fun x y H Q => (rI0 fun i j => .bl (decide (i < j))) x y H Q ∨ (∃ i j, x = .str i ∧ y = .str j ∧ Q (.bl (decide (i.cps.toList < j.cps.toList))) H)
theorem op_ltA : OpR X (compareOp .Lt) rLtA := OpR.or op_lt op_lt_str
theorem od_lt : OpD K rLtA ltD := by
  intro F H x y d1 d2 d e h1 h2 hg Q q
  unfold ltD at hg
  split at hg
  · cases hg
    rw [rp_int h1, rp_int h2]
    exact .inl ⟨_, _, rfl, rfl, q _ F H (New.refl e) (.bl _)⟩
  · cases hg
    rw [rp_str h1, rp_str h2]
    exact .inr ⟨_, _, rfl, rfl, q _ F H (New.refl e) (.bl _)⟩
  · cases hg
theorem od_le : OpD K (rI0 fun i j => .bl (decide (i ≤ j))) leD := by
  intro F H x y d1 d2 d e h1 h2 hg Q q
  unfold leD at hg
  split at hg
  · cases hg
    rw [rp_int h1, rp_int h2]
    exact ⟨_, _, rfl, rfl, q _ F H (New.refl e) (.bl _)⟩
  · cases hg
theorem od_gt : OpD K (rI0 fun i j => .bl (decide (j < i))) gtD := by
  intro F H x y d1 d2 d e h1 h2 hg Q q
  unfold gtD at hg
  split at hg
  · cases hg
    rw [rp_int h1, rp_int h2]
    exact ⟨_, _, rfl, rfl, q _ F H (New.refl e) (.bl _)⟩
  · cases hg
theorem od_ge : OpD K (rI0 fun i j => .bl (decide (j ≤ i))) geD := by
  intro F H x y d1 d2 d e h1 h2 hg Q q
  unfold geD at hg
  split at hg
  · cases hg
    rw [rp_int h1, rp_int h2]
    exact ⟨_, _, rfl, rfl, q _ F H (New.refl e) (.bl _)⟩
  · cases hg
def rIsA : R2 := fun x y H Q => (y = .non ∧ Q (.bl (decide (x = .non))) H) ∨ rIsB x y H Q
def rIsNotA : R2 := fun x y H Q => (y = .non ∧ Q (.bl (!decide (x = .non))) H) ∨ rNotB x y H Q
theorem op_isA : OpR X (compareOp .Is) rIsA := OpR.or op_isN op_isBl
theorem op_isNotA : OpR X (compareOp .IsNot) rIsNotA := OpR.or op_notN op_notBl
theorem dec_beq (a b : Bool) : decide (a = b) = (a == b) := by cases a <;> cases b <;> rfl
theorem od_is : OpD K rIsA isD := by
  intro F H x y d1 d2 d e h1 h2 hg Q q
  unfold isD at hg
  split at hg
  · cases hg
    rw [rp_bool h1, rp_bool h2]
    exact .inr ⟨_, _, rfl, rfl, by rw [dec_beq]; exact q _ F H (New.refl e) (.bl _)⟩
  · cases hg
    rw [rp_none h2]
    exact .inl ⟨rfl, by rw [rp_non_iff h1]; exact q _ F H (New.refl e) (.bl _)⟩
  · cases hg
theorem od_isNot : OpD K rIsNotA isNotD := by
  intro F H x y d1 d2 d e h1 h2 hg Q q
  unfold isNotD at hg
  split at hg
  · cases hg
    rw [rp_bool h1, rp_bool h2]
    exact .inr ⟨_, _, rfl, rfl, by rw [dec_beq]; exact q _ F H (New.refl e) (.bl _)⟩
  · cases hg
    rw [rp_none h2]
    exact .inl ⟨rfl, by rw [rp_non_iff h1]; exact q _ F H (New.refl e) (.bl _)⟩
  · cases hg
theorem ud_neg : UnD K (rU fun i => .int (-i)) negD := by
  intro F H x d1 d e h1 hg Q q
  unfold negD at hg
  split at hg
  · cases hg
    rw [rp_int h1]
    exact ⟨_, rfl, q _ F H (New.refl e) (.int _)⟩
  · cases hg

/-! ### in -/
/-- membership, deep -/
def rInA (K : PySem.W.Frag) : R2 := fun x y H Q => (rInD K x y H Q ∨ rIn K false x y H Q) ∨ (∃ (c : Nat) (z : Str), x = .str ⟨#[c]⟩ ∧ y = .str z ∧ Q (.bl (decide (c ∈ z.cps.toList))) H)
def rNotInA (K : PySem.W.Frag) : R2 := fun x y H Q => (rNotInD K x y H Q ∨ rIn K true x y H Q) ∨ (∃ (c : Nat) (z : Str), x = .str ⟨#[c]⟩ ∧ y = .str z ∧ Q (.bl (!decide (c ∈ z.cps.toList))) H)
theorem op_inA (hu : X.A.units + 65 < cLine) : OpR X (compareOp .In) (rInA X.K) := ((op_inD hu).or op_in_seq).or op_in_sign
theorem op_notInA (hu : X.A.units + 65 < cLine) : OpR X (compareOp .NotIn) (rNotInA X.K) := ((op_notInD hu).or op_notIn_seq).or op_notIn_sign
def flatD : D → Bool
  | .none | .bool _ | .int _ | .str _ => true
  | _ => false
def inB (x : D) (ds : List D) : Bool := ds.any fun z => PyData.eqv z x
def inD : D → D → Option D
  | x, .list ds => if (SeqAt.shaped x && SeqAt.shaped (.list ds)) = true then some (.bool (inB x ds)) else none
  | x, .tuple ds => if (flatD x && ds.all flatD) = true then some (.bool (inB x ds)) else none
  | .str y, .str z => match y.cps.toList with
    | [c] => some (.bool (decide (c ∈ z.cps.toList)))
    | _ => none
  | _, _ => none
def notInD : D → D → Option D
  | x, .list ds => if (SeqAt.shaped x && SeqAt.shaped (.list ds)) = true then some (.bool (!inB x ds)) else none
  | x, .tuple ds => if (flatD x && ds.all flatD) = true then some (.bool (!inB x ds)) else none
  | .str y, .str z => match y.cps.toList with
    | [c] => some (.bool (!decide (c ∈ z.cps.toList)))
    | _ => none
  | _, _ => none
theorem one_sign {y : Str} {c : Nat} (h : y.cps.toList = [c]) : y = ⟨#[c]⟩ := by
  obtain ⟨a⟩ := y
  congr
  exact Array.toList_inj.mp h
theorem flat_of {F : Hp} {x : V} {d : D} (h : Rp K F x d) (f : flatD d = true) : flatV x = true := by
  cases h <;> first | rfl | cases f
theorem flats_of {F : Hp} : ∀ {ds : List D} {xs : List V}, RpAll K F xs ds → ds.all flatD = true → xs.all flatV = true
  | [], _, h, _ => by cases h; rfl
  | d :: ds, _, h, f => by
    cases h with
    | cons h1 h2 =>
      rw [List.all_cons, Bool.and_eq_true] at f
      rw [List.all_cons, flat_of h1 f.1, flats_of h2 f.2] <;> rfl
theorem eqv_of {F : Hp} {x y : V} {c d : D} (h : Rp K F x c) (g : Rp K F y d) (f1 : flatD c = true) (f2 : flatD d = true) : eqV y x = PyData.eqv d c := by
  cases h <;> first | (cases f1; done) | (cases g <;> first | rfl | (cases f2; done) | (rename_i a b; cases a <;> cases b <;> rfl) | (simp [eqV, PyData.eqv]; done))
end
end DL

namespace DL
open PySem PySem.Spec PyProof.Rows L2
section
variable {X : Cx} {K : PySem.W.Frag}
theorem inV_of {F : Hp} {x : V} {c : D} (h : Rp K F x c) (f1 : flatD c = true) : ∀ {ds : List D} {xs : List V}, RpAll K F xs ds → ds.all flatD = true → inV x xs = inB c ds
  | [], _, g, _ => by cases g; rfl
  | d :: ds, _, g, f => by
    cases g with
    | cons g1 g2 =>
      rw [List.all_cons, Bool.and_eq_true] at f
      have ih := inV_of h f1 g2 f.2
      unfold inV inB at ih ⊢
      rw [List.any_cons, List.any_cons, eqv_of h g1 f1 f.1, ih]
theorem od_in : OpD K (rInA K) inD := by
  intro F H x y d1 d2 d e h1 h2 hg Q q
  unfold inD at hg
  split at hg
  · split at hg
    · cases hg
      rename_i ds hz
      rw [Bool.and_eq_true] at hz
      exact .inl (.inl ⟨d1, ds, Rp.dp e _ _ h1, Rp.dp e _ _ h2, hz.1, hz.2, q _ F H (New.refl e) (.bl _)⟩)
    · cases hg
  · split at hg
    · cases hg
      rename_i ds hz
      rw [Bool.and_eq_true] at hz
      obtain ⟨p1, xs, rfl, s1, r1⟩ := rp_tup h2
      refine .inl (.inr ⟨p1, xs, rfl, .inr (Same.sqt e s1), flat_of h1 hz.1, flats_of r1 hz.2, ?_⟩)
      rw [inV_of h1 hz.1 r1 hz.2]
      exact q _ F H (New.refl e) (.bl _)
    · cases hg
  · split at hg
    · cases hg
      rename_i y z c hc
      have e1 := one_sign hc
      subst e1
      rw [rp_str h1, rp_str h2]
      exact .inr ⟨_, _, rfl, rfl, q _ F H (New.refl e) (.bl _)⟩
    · cases hg
  · cases hg
theorem od_notIn : OpD K (rNotInA K) notInD := by
  intro F H x y d1 d2 d e h1 h2 hg Q q
  unfold notInD at hg
  split at hg
  · split at hg
    · cases hg
      rename_i ds hz
      rw [Bool.and_eq_true] at hz
      exact .inl (.inl ⟨d1, ds, Rp.dp e _ _ h1, Rp.dp e _ _ h2, hz.1, hz.2, q _ F H (New.refl e) (.bl _)⟩)
    · cases hg
  · split at hg
    · cases hg
      rename_i ds hz
      rw [Bool.and_eq_true] at hz
      obtain ⟨p1, xs, rfl, s1, r1⟩ := rp_tup h2
      refine .inl (.inr ⟨p1, xs, rfl, .inr (Same.sqt e s1), flat_of h1 hz.1, flats_of r1 hz.2, ?_⟩)
      rw [inV_of h1 hz.1 r1 hz.2]
      exact q _ F H (New.refl e) (.bl _)
    · cases hg
  · split at hg
    · cases hg
      rename_i y z c hc
      have e1 := one_sign hc
      subst e1
      rw [rp_str h1, rp_str h2]
      exact .inr ⟨_, _, rfl, rfl, q _ F H (New.refl e) (.bl _)⟩
    · cases hg
  · cases hg

/-! ### index, slice -/
def ixD : D → D → Option D
  | .list ds, .int i => atI ds i
  | .tuple ds, .int i => atI ds i
  | .str z, .int i => if z.length ≤ 1000000 then (atI z.cps.toList i).map fun c => .str ⟨#[c]⟩ else none
  | _, _ => none
theorem at_rp {F : Hp} {ds : List D} {xs : List V} {i : Int} {d : D} (h : RpAll K F xs ds) (g : atI ds i = some d) : ∃ v, atI xs i = some v ∧ Rp K F v d := by
  unfold atI at g ⊢
  rw [h.len]
  cases z : ixN ds.length i with
  | none => rw [z] at g; cases g
  | some j => rw [z] at g; exact h.get g
theorem od_ix : OpD K (rIx K) ixD := by
  intro F H x y d1 d2 d e h1 h2 hg Q q
  unfold ixD at hg
  split at hg
  · obtain ⟨p1, xs, rfl, s1, r1⟩ := rp_list h1
    obtain ⟨v, g1, g2⟩ := at_rp r1 hg
    rw [rp_int h2]
    exact .inl ⟨_, _, _, _, rfl, rfl, sql_of e s1, g1, q _ F H (New.refl e) g2⟩
  · obtain ⟨p1, xs, rfl, s1, r1⟩ := rp_tup h1
    obtain ⟨v, g1, g2⟩ := at_rp r1 hg
    rw [rp_int h2]
    exact .inr (.inl ⟨_, _, _, _, rfl, rfl, Same.sqt e s1, g1, q _ F H (New.refl e) g2⟩)
  · rename_i z i
    split at hg
    · rename_i hz
      cases c : atI z.cps.toList i with
      | none => rw [c] at hg; cases hg
      | some cc =>
        rw [c] at hg; cases hg
        rw [rp_int h2, rp_str h1]
        exact .inr (.inr ⟨_, _, _, rfl, rfl, big_le hz, c, q _ F H (New.refl e) (.str _)⟩)
    · cases hg
  · cases hg
def cutA {α : Type} (xs : List α) (lo hi : Option Int) : List α := (xs.drop (HT.sIx xs.length 0 lo)).take (HT.sIx xs.length xs.length hi - HT.sIx xs.length 0 lo)
theorem cutV_A (xs : List V) (lo hi : Option Int) : cutV xs lo hi = cutA xs lo hi := rfl
theorem RpAll.cut {F : Hp} {ds : List D} {xs : List V} (h : RpAll K F xs ds) (lo hi : Option Int) : RpAll K F (cutA xs lo hi) (cutA ds lo hi) := by
  unfold cutA
  rw [h.len]
  exact (h.drop _).take _
def slD : D → Option Int → Option Int → Option D
  | .list ds, lo, hi => some (.list (cutA ds lo hi))
  | .tuple ds, lo, hi => some (.tuple (cutA ds lo hi))
  | .str z, lo, hi => if z.length ≤ 1000000 then some (.str (cutS z lo hi)) else none
  | _, _, _ => none
def rSlAll (K : PySem.W.Frag) : V → Option Int → Option Int → Hp → VK → Prop := fun x lo hi H Q => (rSlL K x lo hi H Q ∨ rSlA K x lo hi H Q) ∨ rSlS x lo hi H Q
theorem sl_all : SlR X (rSlAll X.K) := (SlR.or sl_list sl_tupA).or sl_str
theorem sd_sl : SlD K (rSlAll K) slD := by
  intro F H x d1 lo hi d e h1 hg Q q
  unfold slD at hg
  split at hg
  · cases hg
    obtain ⟨p1, xs, rfl, s1, r1⟩ := rp_list h1
    refine .inl (.inl ⟨p1, xs, rfl, sql_of e s1, fun p hp => ?_⟩)
    obtain ⟨n, r⟩ := laidL e hp (r1.cut lo hi)
    exact q _ _ _ n r
  · cases hg
    obtain ⟨p1, xs, rfl, s1, r1⟩ := rp_tup h1
    refine .inl (.inr ⟨p1, xs, rfl, Same.sqt e s1, fun w => ?_, fun w p hp => ?_⟩)
    · refine q _ F H (New.refl e) ?_
      rename_i ds
      have : cutA ds lo hi = ds := by
        unfold cutA
        rw [← r1.len, w.1, w.2, List.drop_zero, Nat.sub_zero, r1.len, List.take_length]
      rw [this]
      exact h1
    · obtain ⟨n, r⟩ := laidT e hp (r1.cut lo hi)
      exact q _ _ _ n r
  · split at hg
    · cases hg
      rename_i hz
      rw [rp_str h1]
      exact .inr ⟨_, rfl, big_le hz, q _ F H (New.refl e) (.str _)⟩
    · cases hg
  · cases hg
def slL : D → Option Int → Option Int → Option (List D)
  | .list ds, lo, hi => some (cutA ds lo hi)
  | _, _, _ => none
theorem sn_sl : SlN K (rSlL K) slL := by
  intro F H x d1 lo hi d e h1 hg Q q
  unfold slL at hg
  split at hg
  · cases hg
    obtain ⟨p1, xs, rfl, s1, r1⟩ := rp_list h1
    exact ⟨p1, xs, rfl, sql_of e s1, fun p hp => q p F _ _ (New.made e hp) (e.free hp) hp upd_same (r1.cut lo hi)⟩
  · cases hg
end

/-! ### expressions -/
section
variable {X : Cx} {n : Nat} {a b c : Expr} {es : List Expr} {pos : Pos} {fa fb fc : ME D} {x : Str}
def nm (i : Nat) : ME D := fun e => match e[i]? with
  | some (.v d) => some (d, e)
  | _ => none
theorem e_nm (i : Nat) (hN : X.N[i]? = some x := by rfl) (hv : Vis X.env.scope x := by first | exact Or.inl rfl | exact Or.inr (Or.inl rfl) | exact Or.inr (Or.inr rfl)) (hd : (x == ("__debug__" : Str)) = false := by decide)
    (hcd : (x == ("__classdict__" : Str)) = false := by decide) : DE X n (.Name x pos) (nm i) := by
  refine ⟨tVar i, pe_var hN hv hd hcd, fun io F σ H e d e' hn R h Q q => ?_⟩
  unfold nm at h
  split at h
  · cases h
    rename_i hh
    obtain ⟨v, h1, h2⟩ := R.val hh
    exact ⟨v, h1, q v F H R .refl h2⟩
  · cases h
def fz (i : Nat) : ME D := fun e => match e[i]? with
  | some (.v d) => some (d, e)
  | some (.o (.list ds)) => some (.list ds, e.set i (.v (.list ds)))
  | _ => none
theorem e_fz (i : Nat) (hN : X.N[i]? = some x := by rfl) (hv : Vis X.env.scope x := by first | exact Or.inl rfl | exact Or.inr (Or.inl rfl) | exact Or.inr (Or.inr rfl)) (hd : (x == ("__debug__" : Str)) = false := by decide)
    (hcd : (x == ("__classdict__" : Str)) = false := by decide) : DE X n (.Name x pos) (fz i) := by
  refine ⟨tVar i, pe_var hN hv hd hcd, fun io F σ H e d e' hn R h Q q => ?_⟩
  unfold fz at h
  split at h
  · cases h
    rename_i hh
    obtain ⟨v, h1, h2⟩ := R.val hh
    exact ⟨v, h1, q v F H R .refl h2⟩
  · cases h
    rename_i ds hh
    obtain ⟨a, h1, h2, ⟨xs, h3, h4⟩, h5⟩ := R.own hh
    have hs : Same F (upd F a (.lst xs)) := Same.new h2
    have hfh : Same (upd F a (.lst xs)) H := fun b o z => by
      by_cases hb : b = a
      · subst hb; rw [upd_same] at z; rw [h3]; exact z
      · rw [upd_ne hb] at z; exact R.ex b o z
    have hlt : i < e.length := (List.getElem?_eq_some_iff.mp hh).1
    have hat : ∀ (j : Nat) (s : Sl), (e.set i (.v (.list ds)))[j]? = some s → (j = i ∧ s = .v (.list ds)) ∨ (j ≠ i ∧ e[j]? = some s) := fun j s z => by
      by_cases hj : j = i
      · subst hj
        rw [List.getElem?_set_self hlt] at z
        exact .inl ⟨rfl, (Option.some.inj z).symm⟩
      · rw [List.getElem?_set_ne (Ne.symm hj)] at z
        exact .inr ⟨hj, z⟩
    have hown : ∀ b, Own σ (e.set i (.v (.list ds))) b → Own σ e b ∧ b ≠ a := fun b ⟨j, d, z1, z2⟩ => by
      rcases hat j _ z1 with ⟨_, z⟩ | ⟨hj, z⟩
      · cases z
      · refine ⟨⟨j, d, z, z2⟩, fun y => ?_⟩
        subst y
        exact hj (R.ap j i b d _ z hh z2 h1)
    refine ⟨.ref a, h1, q _ (upd F a (.lst xs)) H ⟨hfh, by rw [List.length_set]; exact R.len, fun j s z => ?_, fun j l b d d' z1 z2 z3 z4 => ?_, R.io⟩ ⟨hs, fun b o z _ => z, fun b o z => ?_, fun b z => .inl (hown b z).1, fun b z => z⟩ (.lst upd_same (RpAll.mono hs _ _ h4))⟩
    · rcases hat j s z with ⟨rfl, rfl⟩ | ⟨hj, z⟩
      · exact ⟨_, h1, _, rfl, .lst upd_same (RpAll.mono hs _ _ h4)⟩
      · obtain ⟨y, y1, y2⟩ := R.sl j s z
        refine ⟨y, y1, y2.mono hs fun d b e1 e2 => ?_⟩
        subst e1 e2
        have hne : b ≠ a := fun w => by
          subst w
          exact hj (R.ap j i b d _ z hh y1 h1)
        obtain ⟨b2, e3, f2, _⟩ := y2
        cases e3
        rw [upd_ne hne]
        exact ⟨f2, rfl⟩
    · rcases hat j _ z1 with ⟨_, w⟩ | ⟨_, w1⟩
      · cases w
      rcases hat l _ z2 with ⟨_, w⟩ | ⟨_, w2⟩
      · cases w
      exact R.ap j l b d d' w1 w2 z3 z4
    · by_cases hb : b = a
      · subst hb; exact .inr (.inr h5)
      · rw [upd_ne hb] at z; exact .inl z
  · cases h
theorem e_int {i : Int} {j : Nat} : DE X n (.Constant (.int i) j pos) (rt (.int i)) :=
  ⟨tC (.int i), pe_int, fun io F σ H e d e' hn R h Q q => by cases h; exact q _ F H R .refl (.int i)⟩
theorem e_bool {i : Bool} {j : Nat} : DE X n (.Constant (.bool i) j pos) (rt (.bool i)) :=
  ⟨tC (.bl i), pe_bl, fun io F σ H e d e' hn R h Q q => by cases h; exact q _ F H R .refl (.bl i)⟩
theorem e_none {j : Nat} : DE X n (.Constant .none j pos) (rt .none) :=
  ⟨tC .non, pe_non, fun io F σ H e d e' hn R h Q q => by cases h; exact q _ F H R .refl .non⟩
theorem e_str {i : Str} {j : Nat} : DE X n (.Constant (.str i) j pos) (rt (.str i)) :=
  ⟨tC (.str i), pe_str, fun io F σ H e d e' hn R h Q q => by cases h; exact q _ F H R .refl (.str i)⟩
theorem e_gint {i : Int} {t : Tok} (hm : X.mg x = some (.int i t)) (hg : Gl X x := by rfl) (hd : (x == ("__debug__" : Str)) = false := by decide) : DE X n (.Name x pos) (rt (.int i)) :=
  ⟨tC (.int i), pe_glob hg hm ⟨t, rfl⟩ hd, fun io F σ H e d e' hn R h Q q => by cases h; exact q _ F H R .refl (.int i)⟩
theorem e_gstr {i : Str} {t : Tok} (hm : X.mg x = some (.str i t)) (hg : Gl X x := by rfl) (hd : (x == ("__debug__" : Str)) = false := by decide) : DE X n (.Name x pos) (rt (.str i)) :=
  ⟨tC (.str i), pe_glob hg hm ⟨t, rfl⟩ hd, fun io F σ H e d e' hn R h Q q => by cases h; exact q _ F H R .refl (.str i)⟩
def b2 (g : D → D → Option D) (fa fb : ME D) : ME D := bd fa fun x => bd fb fun y => lf (g x y)
def b2L (g : D → D → Option (List D)) (fa fb : ME D) : ME (List D) := bd fa fun x => bd fb fun y => lf (g x y)
def u1 (g : D → Option D) (fa : ME D) : ME D := bd fa fun x => lf (g x)
theorem b2_r {K : PySem.W.Frag} {r : R2} {g : D → D → Option D} {ta tb : TE} (ho : OpD K r g) (ha : DEr K n ta fa) (hb : DEr K n tb fb) : DEr K n (tOp r ta tb) (b2 g fa fb) := by
  intro io F σ H e d e' hn R h Q q
  obtain ⟨d1, e1, h1, h⟩ := bd_some h
  obtain ⟨d2, e2, h2, h⟩ := bd_some h
  obtain ⟨h3, rfl⟩ := lf_some h
  refine ha io F σ H e d1 e1 hn R h1 _ fun x F1 H1 R1 S1 r1 => ?_
  refine hb io F1 σ H1 e1 d2 e' hn R1 h2 _ fun y F2 H2 R2 S2 r2 => ?_
  refine ho F2 H2 x y d1 d2 d R2.ex (Rp.mono S2.ex _ _ r1) r2 h3 Q fun z F3 H3 N3 r3 => ?_
  obtain ⟨R3, S3⟩ := R2.new N3
  exact q z F3 H3 R3 ((S1.trans S2).trans S3) r3
theorem b2L_r {K : PySem.W.Frag} {r : R2} {g : D → D → Option (List D)} {ta tb : TE} (ho : OpN K r g) (ha : DEr K n ta fa) (hb : DEr K n tb fb) : DNr K n (tOp r ta tb) (b2L g fa fb) := by
  intro io F σ H e d e' hn R h Q q
  obtain ⟨d1, e1, h1, h⟩ := bd_some h
  obtain ⟨d2, e2, h2, h⟩ := bd_some h
  obtain ⟨h3, rfl⟩ := lf_some h
  refine ha io F σ H e d1 e1 hn R h1 _ fun x F1 H1 R1 S1 r1 => ?_
  refine hb io F1 σ H1 e1 d2 e' hn R1 h2 _ fun y F2 H2 R2 S2 r2 => ?_
  refine ho F2 H2 x y d1 d2 d R2.ex (Rp.mono S2.ex _ _ r1) r2 h3 Q fun p F3 H3 xs N3 p1 p2 p3 r3 => ?_
  obtain ⟨R3, S3⟩ := R2.new N3
  refine q p F3 H3 xs R3 ((S1.trans S2).trans S3) p1 ((S1.trans S2).dm p p2) (fun z => ?_) p3 r3
  rcases S3.ow p z with y | y
  · obtain ⟨_, o, w⟩ := R2.owned y
    rw [p2] at w; cases w
  · obtain ⟨i, dd, z1, z2⟩ := z
    obtain ⟨_, o, w⟩ := R2.owned ⟨i, dd, z1, z2⟩
    rw [p2] at w; cases w
theorem u1_r {K : PySem.W.Frag} {r : V → Hp → VK → Prop} {g : D → Option D} {ta : TE} (ho : UnD K r g) (ha : DEr K n ta fa) : DEr K n (tUn r ta) (u1 g fa) := by
  intro io F σ H e d e' hn R h Q q
  obtain ⟨d1, e1, h1, h⟩ := bd_some h
  obtain ⟨h3, rfl⟩ := lf_some h
  refine ha io F σ H e d1 e' hn R h1 _ fun x F1 H1 R1 S1 r1 => ?_
  refine ho F1 H1 x d1 d R1.ex r1 h3 Q fun z F3 H3 N3 r3 => ?_
  obtain ⟨R3, S3⟩ := R1.new N3
  exact q z F3 H3 R3 (S1.trans S3) r3
theorem e_op {op : Operator} {r : R2} {g : D → D → Option D} (ho : OpR X (binaryOp op) r) (hd : OpD X.K r g) (ha : DE X n a fa) (hb : DE X n b fb) : DE X n (.BinOp a op b pos) (b2 g fa fb) := by
  obtain ⟨ta, pa, ra⟩ := ha
  obtain ⟨tb, pb, rb⟩ := hb
  exact ⟨_, pe_op ho pa pb, b2_r hd ra rb⟩
theorem n_op {op : Operator} {r : R2} {g : D → D → Option (List D)} (ho : OpR X (binaryOp op) r) (hd : OpN X.K r g) (ha : DE X n a fa) (hb : DE X n b fb) : DN X n (.BinOp a op b pos) (b2L g fa fb) := by
  obtain ⟨ta, pa, ra⟩ := ha
  obtain ⟨tb, pb, rb⟩ := hb
  exact ⟨_, pe_op ho pa pb, b2L_r hd ra rb⟩
theorem e_add (ha : DE X n a fa) (hb : DE X n b fb) : DE X n (.BinOp a .Add b pos) (b2 addA fa fb) := e_op op_addA od_add ha hb
theorem e_sub (ha : DE X n a fa) (hb : DE X n b fb) : DE X n (.BinOp a .Sub b pos) (b2 subD fa fb) := e_op op_sub od_sub ha hb
theorem e_mul (ha : DE X n a fa) (hb : DE X n b fb) : DE X n (.BinOp a .Mult b pos) (b2 mulA fa fb) := e_op op_mulA od_mul ha hb
theorem e_fdiv (ha : DE X n a fa) (hb : DE X n b fb) : DE X n (.BinOp a .FloorDiv b pos) (b2 fdivD fa fb) := e_op op_fdiv od_fdiv ha hb
theorem e_mod (ha : DE X n a fa) (hb : DE X n b fb) : DE X n (.BinOp a .Mod b pos) (b2 modD fa fb) := e_op op_mod od_mod ha hb
theorem e_pow (ha : DE X n a fa) (hb : DE X n b fb) : DE X n (.BinOp a .Pow b pos) (b2 powD fa fb) := e_op op_pow od_pow ha hb
theorem n_add (ha : DE X n a fa) (hb : DE X n b fb) : DN X n (.BinOp a .Add b pos) (b2L catL fa fb) := n_op op_cat on_cat ha hb
theorem n_mul (ha : DE X n a fa) (hb : DE X n b fb) : DN X n (.BinOp a .Mult b pos) (b2L repL fa fb) := n_op op_rep on_rep ha hb
theorem e_neg (ha : DE X n a fa) : DE X n (.UnaryOp .USub a pos) (u1 negD fa) := by
  obtain ⟨ta, pa, ra⟩ := ha
  exact ⟨_, pe_un un_neg pa, u1_r ud_neg ra⟩
theorem e_cmp {op : CmpOp} {r : R2} {g : D → D → Option D} (ho : OpR X (compareOp op) r) (hd : OpD X.K r g) (ha : DE X n a fa) (hb : DE X n b fb) (hm : behindInMarks op b = false) : DE X n (.Compare a [op] [b] pos) (b2 g fa fb) := by
  obtain ⟨ta, pa, ra⟩ := ha
  obtain ⟨tb, pb, rb⟩ := hb
  exact ⟨_, pe_cmpR ho pa pb hm, b2_r hd ra rb⟩
/-- a new list, as a value -/
def fr (f : ME (List D)) : ME D := bd f fun ds => rt (.list ds)
theorem e_of_n {f : ME (List D)} (h : DN X n a f) : DE X n a (fr f) := by
  obtain ⟨t, p, r⟩ := h
  refine ⟨t, p, fun io F σ H e d e' hn R h Q q => ?_⟩
  obtain ⟨ds, e1, h1, h⟩ := bd_some h
  cases h
  refine r io F σ H e ds e' hn R h1 Q fun p F1 H1 xs R1 S1 p1 p2 p3 p4 r1 => ?_
  have hs : Same F1 (upd F1 p (.lst xs)) := Same.new p1
  have hfh : Same (upd F1 p (.lst xs)) H1 := fun b o z => by
    by_cases hb : b = p
    · subst hb; rw [upd_same] at z; rw [p4]; exact z
    · rw [upd_ne hb] at z; exact R1.ex b o z
  refine q _ (upd F1 p (.lst xs)) H1 (R1.up hs hfh fun a ha => ⟨?_, rfl⟩) ⟨S1.ex.trans hs, S1.fr, fun b o z => ?_, S1.ow, S1.dm⟩ (.lst upd_same (RpAll.mono hs _ _ r1))
  · have hne : a ≠ p := fun z => p3 (z ▸ ha)
    rw [upd_ne hne]
    exact (R1.owned ha).1
  · by_cases hb : b = p
    · subst hb; exact .inr (.inl p2)
    · rw [upd_ne hb] at z; exact S1.nw b o z

/-! ### argument lists, displays -/
def aNil : ME (List D) := rt []
def aCons (f : ME D) (g : ME (List D)) : ME (List D) := bd f fun d => bd g fun ds => rt (d :: ds)
theorem a_nil : DA X n [] aNil := ⟨tNil, pa_nil, fun io F σ H e d e' hn R h Q q => by cases h; exact q _ F H R .refl .nil⟩
theorem a_cons {g : ME (List D)} (ha : DE X n a fa) (hr : DA X n es g) (hs : starEach (a :: es) X.env = (false, eval a X.env) :: starEach es X.env := by rfl) : DA X n (a :: es) (aCons fa g) := by
  obtain ⟨ta, pa, ra⟩ := ha
  obtain ⟨tb, pb, rb⟩ := hr
  refine ⟨_, pa_cons pa pb hs, fun io F σ H e d e' hn R h Q q => ?_⟩
  obtain ⟨d1, e1, h1, h⟩ := bd_some h
  obtain ⟨d2, e2, h2, h⟩ := bd_some h
  cases h
  refine ra io F σ H e d1 e1 hn R h1 _ fun x F1 H1 R1 S1 r1 => ?_
  refine rb io F1 σ H1 e1 d2 e' hn R1 h2 _ fun ys F2 H2 R2 S2 r2 => ?_
  exact q _ F2 H2 R2 (S1.trans S2) (.cons (Rp.mono S2.ex _ _ r1) r2)
def shortL (ds : List D) : Option (List D) := if ds.length ≤ 1000 then some ds else none
theorem n_lst {g : ME (List D)} (h : DA X n es g) : DN X n (.List es pos) (bd g fun ds => lf (shortL ds)) := by
  obtain ⟨t, p, r⟩ := h
  refine ⟨_, pe_lst p, fun io F σ H e d e' hn R h Q q => ?_⟩
  obtain ⟨ds, e1, h1, h⟩ := bd_some h
  obtain ⟨h2, rfl⟩ := lf_some h
  unfold shortL at h2
  split at h2
  · cases h2
    rename_i hz
    refine r io F σ H e _ e' hn R h1 _ fun xs F1 H1 R1 S1 r1 => ⟨by rw [r1.len]; exact big_le (by omega), fun p hp => ?_⟩
    obtain ⟨R2, S2⟩ := R1.new (New.made (p := p) (o := .lst xs) R1.ex hp)
    refine q p F1 _ xs R2 (S1.trans S2) (R1.ex.free hp) (S1.dm p hp) (fun z => ?_) upd_same r1
    obtain ⟨_, o, w⟩ := R1.owned z
    rw [hp] at w; cases w
  · cases h2
def tupS (g : ME (List D)) : ME D := bd g fun ds => lf ((shortL ds).map .tuple)
theorem e_tup {x1} {g : ME (List D)} (h : DA X n es g) : DE X n (.Tuple es x1 pos) (tupS g) := by
  obtain ⟨t, p, r⟩ := h
  refine ⟨_, pe_tup p, fun io F σ H e d e' hn R h Q q => ?_⟩
  obtain ⟨ds, e1, h1, k⟩ := bd_some h
  obtain ⟨k2, rfl⟩ := lf_some k
  unfold shortL at k2
  split at k2
  · cases k2
    rename_i hz
    refine r io F σ H e _ e' hn R h1 _ fun xs F1 H1 R1 S1 r1 => ⟨by rw [r1.len]; exact big_le (by omega), fun p hp => ?_⟩
    obtain ⟨n2, r2⟩ := laidT R1.ex hp r1
    obtain ⟨R2, S2⟩ := R1.new n2
    exact q _ _ _ R2 (S1.trans S2) r2
  · cases k2

/-! ### tests -/
def asB : D → Option Bool
  | .bool b => some b
  | _ => none
def tv (f : ME D) : ME Bool := bd f fun d => lf (asB d)
theorem asB_some {d : D} {b : Bool} (h : asB d = some b) : d = .bool b := by
  unfold asB at h
  split at h
  · cases h; rfl
  · cases h
theorem tB_r {K : PySem.W.Frag} {t : TE} (h : DEr K n t fa) : DTr K n (tB t) (tv fa) := by
  intro io F σ H e d e' hn R hh Q q
  obtain ⟨d1, e1, h1, hh⟩ := bd_some hh
  obtain ⟨h2, rfl⟩ := lf_some hh
  have e2 := asB_some h2
  subst e2
  refine h io F σ H e _ e' hn R h1 _ fun x F1 H1 R1 S1 r1 => ?_
  exact ⟨d, rp_bool r1, q F1 H1 R1 S1⟩
theorem t_val (h : DE X n a fa) (he : ∀ whole, isTrue a X.env whole = (do let v ← whole; standAt a.pos; holding [v] (truthy v)) := by intro _; rfl) : DT X n a (tv fa) := by
  obtain ⟨t, p, r⟩ := h
  exact ⟨_, pt_val p he, tB_r r⟩
theorem t_cmp {op : CmpOp} {r : R2} {g : D → D → Option D} (ho : OpR X (compareOp op) r) (hd : OpD X.K r g) (ha : DE X n a fa) (hb : DE X n b fb) (hm : behindInMarks op b = false) : DT X n (.Compare a [op] [b] pos) (tv (b2 g fa fb)) := by
  obtain ⟨ta, pa, ra⟩ := ha
  obtain ⟨tb, pb, rb⟩ := hb
  exact ⟨_, pt_cmpR ho pa pb hm, tB_r (b2_r hd ra rb)⟩
def ch (g g' : D → D → Option D) (fa fb fc : ME D) : ME D := bd fa fun x => bd fb fun y => bd (lf ((g x y).bind asB)) fun z => if z = true then bd fc fun w => lf (g' y w) else rt (.bool false)
theorem ch_r {K : PySem.W.Frag} {r r' : R2} {g g' : D → D → Option D} {ta tb tc : TE} (ho : OpD K r g) (ho' : OpD K r' g') (ha : DEr K n ta fa) (hb : DEr K n tb fb) (hc : DEr K n tc fc) : DEr K n (tChain r r' ta tb tc) (ch g g' fa fb fc) := by
  intro io F σ H e d e' hn R h Q q
  obtain ⟨d1, e1, h1, h⟩ := bd_some h
  obtain ⟨d2, e2, h2, h⟩ := bd_some h
  obtain ⟨z, e3, h3, h⟩ := bd_some h
  obtain ⟨k3, rfl⟩ := lf_some h3
  refine ha io F σ H e d1 e1 hn R h1 _ fun x F1 H1 R1 S1 r1 => ?_
  refine hb io F1 σ H1 e1 d2 e3 hn R1 h2 _ fun y F2 H2 R2 S2 r2 => ?_
  cases gz : g d1 d2 with
  | none => rw [gz] at k3; cases k3
  | some dz =>
    rw [gz] at k3
    have e4 := asB_some k3
    subst e4
    refine ho F2 H2 x y d1 d2 _ R2.ex (Rp.mono S2.ex _ _ r1) r2 gz _ fun zv F3 H3 N3 r3 => ?_
    obtain ⟨R3, S3⟩ := R2.new N3
    refine ⟨z, rp_bool r3, ?_⟩
    cases z with
    | true =>
      simp only [if_true] at h ⊢
      obtain ⟨d5, e5, h5, h⟩ := bd_some h
      obtain ⟨h6, rfl⟩ := lf_some h
      refine hc io F3 σ H3 e3 d5 e' hn R3 h5 _ fun w F4 H4 R4 S4 r4 => ?_
      refine ho' F4 H4 y w d2 d5 d R4.ex (Rp.mono (S3.ex.trans S4.ex) _ _ r2) r4 h6 Q fun zz F5 H5 N5 r5 => ?_
      obtain ⟨R5, S5⟩ := R4.new N5
      exact q zz F5 H5 R5 ((((S1.trans S2).trans S3).trans S4).trans S5) r5
    | false =>
      simp only [Bool.false_eq_true, if_false] at h ⊢
      cases h
      exact q _ F3 H3 R3 ((S1.trans S2).trans S3) (.bl false)
theorem e_chain {op op' : CmpOp} {r r' : R2} {g g' : D → D → Option D} (ho : OpR X (compareOp op) r) (hd : OpD X.K r g) (ho' : OpR X (compareOp op') r') (hd' : OpD X.K r' g') (ha : DE X n a fa) (hb : DE X n b fb) (hc : DE X n c fc)
    (hm : lastMarks [op, op'] [b, c] = false := by with_unfolding_all rfl) : DE X n (.Compare a [op, op'] [b, c] pos) (ch g g' fa fb fc) := by
  obtain ⟨ta, pa, ra⟩ := ha
  obtain ⟨tb, pb, rb⟩ := hb
  obtain ⟨tc, pc, rc⟩ := hc
  exact ⟨_, pe_chain ho ho' pa pb pc hm, ch_r hd hd' ra rb rc⟩
theorem t_chain {op op' : CmpOp} {r r' : R2} {g g' : D → D → Option D} (ho : OpR X (compareOp op) r) (hd : OpD X.K r g) (ho' : OpR X (compareOp op') r') (hd' : OpD X.K r' g') (ha : DE X n a fa) (hb : DE X n b fb) (hc : DE X n c fc)
    (hm : lastMarks [op, op'] [b, c] = false := by with_unfolding_all rfl) : DT X n (.Compare a [op, op'] [b, c] pos) (tv (ch g g' fa fb fc)) := by
  obtain ⟨ta, pa, ra⟩ := ha
  obtain ⟨tb, pb, rb⟩ := hb
  obtain ⟨tc, pc, rc⟩ := hc
  exact ⟨_, pt_chain ho ho' pa pb pc hm, tB_r (ch_r hd hd' ra rb rc)⟩
def tAn (f g : ME Bool) : ME Bool := bd f fun b => if b = true then g else rt false
def tOr' (f g : ME Bool) : ME Bool := bd f fun b => if b = true then rt true else g
def tNo (f : ME Bool) : ME Bool := bd f fun b => rt (!b)
section
variable {ga gb : ME Bool} {rest : List Expr}
theorem w_and1 (h : DT X n a ga) : DW X n (.BoolOp .And [a] pos) ga := by
  obtain ⟨t, p, r⟩ := h
  exact ⟨t, pw_and1 p, r⟩
theorem w_or1 (h : DT X n a ga) : DW X n (.BoolOp .Or [a] pos) ga := by
  obtain ⟨t, p, r⟩ := h
  exact ⟨t, pw_or1 p, r⟩
theorem w_and (ha : DT X n a ga) (hb : DW X n (.BoolOp .And (b :: rest) pos) gb) : DW X n (.BoolOp .And (a :: b :: rest) pos) (tAn ga gb) := by
  obtain ⟨t, p, r⟩ := ha
  obtain ⟨t2, p2, r2⟩ := hb
  refine ⟨_, pw_and p p2, fun io F σ H e d e' hn R h Q q => ?_⟩
  obtain ⟨k, e1, h1, h⟩ := bd_some h
  refine r io F σ H e k e1 hn R h1 _ fun F1 H1 R1 S1 => ?_
  cases k with
  | true => exact r2 io F1 σ H1 e1 d e' hn R1 h Q fun F2 H2 R2 S2 => q F2 H2 R2 (S1.trans S2)
  | false => cases h; exact q F1 H1 R1 S1
theorem w_or (ha : DT X n a ga) (hb : DW X n (.BoolOp .Or (b :: rest) pos) gb) : DW X n (.BoolOp .Or (a :: b :: rest) pos) (tOr' ga gb) := by
  obtain ⟨t, p, r⟩ := ha
  obtain ⟨t2, p2, r2⟩ := hb
  refine ⟨_, pw_or p p2, fun io F σ H e d e' hn R h Q q => ?_⟩
  obtain ⟨k, e1, h1, h⟩ := bd_some h
  refine r io F σ H e k e1 hn R h1 _ fun F1 H1 R1 S1 => ?_
  cases k with
  | false => exact r2 io F1 σ H1 e1 d e' hn R1 h Q fun F2 H2 R2 S2 => q F2 H2 R2 (S1.trans S2)
  | true => cases h; exact q F1 H1 R1 S1
theorem t_of_w (h : DW X n a ga) : DT X n a ga := by
  obtain ⟨t, p, r⟩ := h
  exact ⟨t, p.pt, r⟩
theorem t_not (h : DT X n a ga) : DT X n (.UnaryOp .Not a pos) (tNo ga) := by
  obtain ⟨t, p, r⟩ := h
  refine ⟨_, pt_not p, fun io F σ H e d e' hn R h Q q => ?_⟩
  obtain ⟨k, e1, h1, h⟩ := bd_some h
  cases h
  exact r io F σ H e k e' hn R h1 _ fun F1 H1 R1 S1 => q F1 H1 R1 S1
/-- values -/
def vAn (f g : ME D) : ME D := bd (tv f) fun b => if b = true then g else rt (.bool false)
def vOr (f g : ME D) : ME D := bd (tv f) fun b => if b = true then rt (.bool true) else g
def vNo (f : ME D) : ME D := bd (tv f) fun b => rt (.bool (!b))
theorem v_one {op} (h : DE X n a fa) : DE X n (.BoolOp op [a] pos) fa := by
  obtain ⟨t, p, r⟩ := h
  exact ⟨t, pe_one p, r⟩
theorem v_and (ha : DE X n a fa) (hb : DE X n (.BoolOp .And (b :: rest) pos) fb) : DE X n (.BoolOp .And (a :: b :: rest) pos) (vAn fa fb) := by
  obtain ⟨t, p, r⟩ := ha
  obtain ⟨t2, p2, r2⟩ := hb
  refine ⟨_, pe_and p p2, fun io F σ H e d e' hn R h Q q => ?_⟩
  obtain ⟨k, e1, h1, h⟩ := bd_some h
  obtain ⟨d1, e2, h2, h1⟩ := bd_some h1
  obtain ⟨h3, rfl⟩ := lf_some h1
  have e4 := asB_some h3
  subst e4
  refine r io F σ H e _ e1 hn R h2 _ fun x F1 H1 R1 S1 r1 => ⟨k, rp_bool r1, ?_⟩
  cases k with
  | true => exact r2 io F1 σ H1 e1 d e' hn R1 h Q fun x F2 H2 R2 S2 r2 => q x F2 H2 R2 (S1.trans S2) r2
  | false => cases h; exact q _ F1 H1 R1 S1 (.bl false)
theorem v_or (ha : DE X n a fa) (hb : DE X n (.BoolOp .Or (b :: rest) pos) fb) : DE X n (.BoolOp .Or (a :: b :: rest) pos) (vOr fa fb) := by
  obtain ⟨t, p, r⟩ := ha
  obtain ⟨t2, p2, r2⟩ := hb
  refine ⟨_, pe_or p p2, fun io F σ H e d e' hn R h Q q => ?_⟩
  obtain ⟨k, e1, h1, h⟩ := bd_some h
  obtain ⟨d1, e2, h2, h1⟩ := bd_some h1
  obtain ⟨h3, rfl⟩ := lf_some h1
  have e4 := asB_some h3
  subst e4
  refine r io F σ H e _ e1 hn R h2 _ fun x F1 H1 R1 S1 r1 => ⟨k, rp_bool r1, ?_⟩
  cases k with
  | false => exact r2 io F1 σ H1 e1 d e' hn R1 h Q fun x F2 H2 R2 S2 r2 => q x F2 H2 R2 (S1.trans S2) r2
  | true => cases h; exact q _ F1 H1 R1 S1 (.bl true)
theorem v_not (h : DE X n a fa) : DE X n (.UnaryOp .Not a pos) (vNo fa) := by
  obtain ⟨t, p, r⟩ := h
  refine ⟨_, pe_not p, fun io F σ H e d e' hn R h Q q => ?_⟩
  obtain ⟨k, e1, h1, h⟩ := bd_some h
  cases h
  obtain ⟨d1, e2, h2, h1⟩ := bd_some h1
  obtain ⟨h3, rfl⟩ := lf_some h1
  have e4 := asB_some h3
  subst e4
  exact r io F σ H e _ e' hn R h2 _ fun x F1 H1 R1 S1 r1 => ⟨k, rp_bool r1, q _ F1 H1 R1 S1 (.bl _)⟩
def ifE (g : ME Bool) (f f' : ME D) : ME D := bd g fun b => if b = true then f else f'
theorem e_if (hc : DT X n c ga) (ha : DE X n a fa) (hb : DE X n b fb) : DE X n (.IfExp c a b pos) (ifE ga fa fb) := by
  obtain ⟨t, p, r⟩ := hc
  obtain ⟨t1, p1, r1⟩ := ha
  obtain ⟨t2, p2, r2⟩ := hb
  refine ⟨_, pe_ifExp p p1 p2, fun io F σ H e d e' hn R h Q q => ?_⟩
  obtain ⟨k, e1, h1, h⟩ := bd_some h
  refine r io F σ H e k e1 hn R h1 _ fun F1 H1 R1 S1 => ?_
  cases k with
  | true => exact r1 io F1 σ H1 e1 d e' hn R1 h Q fun x F2 H2 R2 S2 q2 => q x F2 H2 R2 (S1.trans S2) q2
  | false => exact r2 io F1 σ H1 e1 d e' hn R1 h Q fun x F2 H2 R2 S2 q2 => q x F2 H2 R2 (S1.trans S2) q2
end

/-! ### subscripts -/
theorem e_ix (ha : DE X n a fa) (hb : DE X n b fb) (hs : PlainIx b := by exact fun _ _ => rfl) : DE X n (.Subscript a b pos) (b2 ixD fa fb) := by
  obtain ⟨ta, pa, ra⟩ := ha
  obtain ⟨tb, pb, rb⟩ := hb
  exact ⟨_, pe_ix ix_seq pa pb hs, b2_r od_ix ra rb⟩
def oNo : ME (Option Int) := rt none
def asI : D → Option Int
  | .int i => some i
  | _ => none
def oSo (f : ME D) : ME (Option Int) := bd f fun d => lf ((asI d).map some)
theorem o_none : DO X n none oNo := ⟨_, po_none, fun io F σ H e d e' hn R h Q q => by cases h; exact q F H R .refl⟩
theorem o_some (h : DE X n a fa) : DO X n (some a) (oSo fa) := by
  obtain ⟨t, p, r⟩ := h
  refine ⟨_, po_some p, fun io F σ H e d e' hn R h Q q => ?_⟩
  obtain ⟨d1, e1, h1, h⟩ := bd_some h
  obtain ⟨h2, rfl⟩ := lf_some h
  cases z : asI d1 with
  | none => rw [z] at h2; cases h2
  | some i =>
    rw [z] at h2; cases h2
    unfold asI at z
    split at z
    · cases z
      exact r io F σ H e _ e' hn R h1 _ fun x F1 H1 R1 S1 r1 => ⟨i, rp_int r1, q F1 H1 R1 S1⟩
    · cases z
def slS (fa : ME D) (fl fh : ME (Option Int)) : ME D := bd fa fun x => bd fl fun lo => bd fh fun hi => lf (slD x lo hi)
def slSL (fa : ME D) (fl fh : ME (Option Int)) : ME (List D) := bd fa fun x => bd fl fun lo => bd fh fun hi => lf (slL x lo hi)
theorem e_sl {lo hi : Option Expr} {fl fh : ME (Option Int)} {p2 : Pos} (ha : DE X n a fa) (hl : DO X n lo fl) (hh : DO X n hi fh) : DE X n (.Subscript a (.Slice lo hi none p2) pos) (slS fa fl fh) := by
  obtain ⟨ta, pa, ra⟩ := ha
  obtain ⟨tl, pl, rl⟩ := hl
  obtain ⟨th, ph, rh⟩ := hh
  refine ⟨_, pe_slice sl_all pa pl ph, fun io F σ H e d e' hn R h Q q => ?_⟩
  obtain ⟨d1, e1, h1, h⟩ := bd_some h
  obtain ⟨d2, e2, h2, h⟩ := bd_some h
  obtain ⟨d3, e3, h3, h⟩ := bd_some h
  obtain ⟨h4, rfl⟩ := lf_some h
  refine ra io F σ H e d1 e1 hn R h1 _ fun x F1 H1 R1 S1 r1 => ?_
  refine rl io F1 σ H1 e1 d2 e2 hn R1 h2 _ fun F2 H2 R2 S2 => ?_
  refine rh io F2 σ H2 e2 d3 e' hn R2 h3 _ fun F3 H3 R3 S3 => ?_
  refine sd_sl F3 H3 x d1 d2 d3 d R3.ex (Rp.mono (S2.ex.trans S3.ex) _ _ r1) h4 Q fun z F4 H4 N4 r4 => ?_
  obtain ⟨R4, S4⟩ := R3.new N4
  exact q z F4 H4 R4 (((S1.trans S2).trans S3).trans S4) r4
end
end DL

/-! DL4: defs and their calls, where it is known that nothing is being shown (repr). -/
namespace DL
open PySem PySem.Spec PyProof.Rows L2

/-- a def that keeps a promise, called where no repr runs -/
structure FnG (P : Program) (w : World) (K : PySem.W.Frag) (mg : Str → Option Value) (base : Heap) (k : Nat) (f : Addr) (fd : FuncData) (ps : List Str) (sp : Sp) : Prop where
  len : ∀ vs H Q E, sp vs H Q E → vs.length = ps.length
  run : ∀ (A : Around) (outer : List Env) (s : Shared) (H : Hp) (args : Args) (us : List Value) (vs : List V) (Q : VK) (E : XK), Room k A → A.guards = some [] →
    Env0 P w K mg base A outer s H → BindsTo s fd args (ps.zip us) → Vals vs us → sp vs H Q E → codeAny (model P w) A (.call (.ref f) args) (CR CX0 outer P w H s Q E) s
theorem FnG.mono {P : Program} {w : World} {K : PySem.W.Frag} {mg : Str → Option Value} {base : Heap} {j k : Nat} {f : Addr} {fd : FuncData} {ps : List Str} {sp : Sp} (F : FnG P w K mg base j f fd ps sp) (h : j ≤ k) :
    FnG P w K mg base k f fd ps sp := ⟨F.len, fun A outer s H args us vs Q E hr => F.run A outer s H args us vs Q E (hr.mono h)⟩

section
variable {P : Program} {w : World} {K : PySem.W.Frag} {mg : Str → Option Value} {base : Heap}
theorem fn_ofG {k : Nat} {f : Addr} {name qual : Str} {params : Arguments} {body : List Stmt} {scope : Scope} {d0 k0 doc pm cdv ct oc : Value} {an od : Option Addr} {osl : Array (Option Value)} {N ps : List Str} {sp : Sp}
    (found : K.lookup f = some ⟨oc, od, .func (PySem.W.fnOf name qual params body scope d0 k0 doc pm an cdv ct), osl⟩) (code : PySem.W.codeIn K cdv qual = true) (S : FnScope N ps scope) (len : ∀ vs H Q E, sp vs H Q E → vs.length = ps.length)
    (bodyOk : ∀ (A : Around) (outer : List Env) (s : Shared) (H : Hp) (vs : List V) (Q : VK) (E : XK), Room k (A.deeper (envOfC qual scope s.heap.objs.size f cdv)) → (A.deeper (envOfC qual scope s.heap.objs.size f cdv)).guards = some [] → sp vs H Q E →
      ∃ t, PSs (cxOf CX0 P w K mg base N qual scope f cdv A outer s H E) body t ∧ t { nx := fun _ H' => Q .non H', rt := Q } (start N vs) H) :
    FnG P w K mg base (k + 1) f (PySem.W.fnOf name qual params body scope d0 k0 doc pm an cdv ct) ps sp where
  len := len
  run := by
    intro A outer s H args us vs Q E room gd env bound rel want
    have count := len _ _ _ _ want
    have kin : K.In s.heap := env.mod.kin.keeps fun b o q => (env.bs b o q).1
    have nolim : s.heap.NoLimit := env.mod.nolimit.keeps fun b o q => (env.bs b o q).1
    refine codeAny_call_function room.depth (kin _ _ found) rfl S.co S.gen rfl (PySem.W.codeRec_of kin code) (bound _ _ _ _ ?_)
    refine wpAny_newFunctionEnv_cells S.kind (fun p hp => ?_) fun env' same s1 entered => ?_
    · obtain ⟨nm', val⟩ := p
      have inP := (List.of_mem_zip hp).1
      cases S.par nm' inP with
      | inl loc => exact Or.inl loc
      | inr cel => exact Or.inr ⟨cel, PySem.W.cellsFrom_some _ _ _ (Or.inl cel)⟩
    · subst same
      refine ⟨nolim.keeps entered.toInCall.keep, codeAny_func ?_⟩
      obtain ⟨t, derived, reading⟩ := bodyOk A outer s H vs Q E (room.deeper _) gd want
      have I0 := inv_start (CX := CX0) (E := E) S room.hd env count rel entered
      refine wpAny_mono (derived.run [] s1 (start N vs) H _ I0 reading) (fun flow s' post => ?_) (fun _ _ post => post)
      cases flow with
      | ret u =>
        obtain ⟨v, _, H', J, rv, q⟩ := post
        exact ⟨v, H', J.os, J.bare, J.base, J.hok, rv, q⟩
      | next =>
        obtain ⟨_, H', J, q⟩ := post
        exact ⟨V.non, H', J.os, J.bare, J.base, J.hok, rfl, q⟩
      | brk =>
        obtain ⟨_, _, _, q⟩ := post
        cases q
      | cont =>
        obtain ⟨_, _, _, q⟩ := post
        cases q

theorem okG {x qual : Str} {st : Stmt} {f : Addr} {fd : FuncData} {N ps : List Str} {k : Nat} {sp : Sp} (F : Fun K x qual st f fd) (S : FnScope N ps (defScope st)) (len : ∀ vs H Q E, sp vs H Q E → vs.length = ps.length)
    (bodyOk : ∀ (cdv : Value) (A : Around) (outer : List Env) (s : Shared) (H : Hp) (vs : List V) (Q : VK) (E : XK), Room k (A.deeper (envOfC qual (defScope st) s.heap.objs.size f cdv)) → (A.deeper (envOfC qual (defScope st) s.heap.objs.size f cdv)).guards = some [] → sp vs H Q E →
      ∃ t, PSs (cxOf CX0 P w K mg base N qual (defScope st) f cdv A outer s H E).nox (defBody st) t ∧ t { nx := fun _ H' => Q .non H', rt := Q } (start N vs) H) : FnG P w K mg base (k + 1) f fd ps sp := by
  obtain ⟨oc, od, kV, doc, pm, an, cdv, ct, osl, rfl, found, code⟩ := F.ex
  refine fn_ofG found code S len fun A outer s H vs Q E room gd want => ?_
  obtain ⟨t, h, q⟩ := bodyOk cdv A outer s H vs Q E room gd want
  exact ⟨t, h.nox, q⟩
end

section
variable {X : Cx} {k : Nat} {f : Addr} {fd : FuncData} {ps : List Str} {sp : Sp} {x : Str} {p pos : Pos} {e : Expr} {es : List Expr} {t : TA}
theorem run_fnG {pins : List (Addr × Obj)} {σ : L2.St} {H : Hp} {s : Shared} {Q : VK} {us : List Value} {vs : List V} (F : FnG X.prog X.w X.K X.mg X.base k f fd ps sp) (room : Room k X.A) (gd : X.A.guards = some []) (bd : Binds X.K fd ps [])
    (I : Inv X pins σ H s) (rel : Vals vs us) (want : sp vs H Q E0) : wpAny (model X.prog X.w) X.A (call (.ref f) us) (EP X pins σ Q) X.xe s := by
  have count : (us ++ []).length = ps.length := by
    rw [List.append_nil, ← rel.length]
    exact F.len _ _ _ _ want
  have bound := bd s us I.kIn count
  rw [List.append_nil] at bound
  refine wpAny_call (codeAny_mono (F.run X.A X.stack s H ⟨us, []⟩ us vs Q E0 room gd I.env0 bound rel want) fun r s' post => ?_)
  match r, post with
  | .error _, post => exact False.elim post
  | .ok (.ret u), post => exact I.after post
theorem pe_callG (F : FnG X.prog X.w X.K X.mg X.base k f fd ps sp) (room : Room k X.A) (gd : X.A.guards = some []) (hm : X.mg x = some (.ref f)) (hk : PySem.W.keepIn X.K (.ref f) = true) (bd : Binds X.K fd ps []) (ha : PA X (e :: es) t) (hg : Gl X x := by rfl)
    (hdb : (x == ("__debug__" : Str)) = false := by decide) (he : starEach (e :: es) X.env = (false, eval e X.env) :: starEach es X.env := by rfl) (hpl : (backTo pos (starEach es X.env)).any (·.1) = false := by rfl) :
    PE X (.Call (.Name x p) (e :: es) [] pos) (tCall sp [] E0 t) where
  run pins s σ H Q I h := by
    refine wpAny_Call_Name_kw (ld_glob I hg hm ?_ hdb)
    refine PySem.W.callWith_K (h₀ := X.base) I.ok.mod.kin hk (thn (ha.run pos pins s σ H _ I h) fun us s1 z => ?_) he hpl
    obtain ⟨vs, H1, I1, rel, want⟩ := z
    rw [List.append_nil] at want
    exact ⟨I1.kIn, run_fnG F room gd bd I1 rel want⟩
theorem pe_call0G (F : FnG X.prog X.w X.K X.mg X.base k f fd ps sp) (room : Room k X.A) (gd : X.A.guards = some []) (hm : X.mg x = some (.ref f)) (hk : PySem.W.keepIn X.K (.ref f) = true) (bd : Binds X.K fd ps []) (hg : Gl X x := by rfl)
    (hdb : (x == ("__debug__" : Str)) = false := by decide) : PE X (.Call (.Name x p) [] [] pos) (tCall sp [] E0 tNil) where
  run pins s σ H Q I h := by
    refine wpAny_Call_Name_kw (ld_glob I hg hm ?_ hdb)
    exact PySem.W.callWith_K0 I.kIn hk (run_fnG (us := []) F room gd bd I .nil h)

/-- repr of data -/
theorem call_reprD (room : X.A.units + 64 < cLine) (gd : X.A.guards = some []) : CallR X (.builtin "repr") (fun xs H Q => ∃ x d, xs = [x] ∧ Dp X.K H x d ∧ d.showable = true ∧ d.depth ≤ 60 ∧ d.hasDict = false ∧ d.shown.length ≤ sizeLine ∧ Q (.str d.shown) H) := by
  intro pins s σ H xs us Q I r h
  obtain ⟨x, d, rfl, hd, h1, h2, h3, h4, q⟩ := h
  obtain ⟨u, rfl, ru⟩ := vals1 r
  obtain ⟨as, hr⟩ := Dp.reads I d x u hd ru
  cases hd with
  | non => cases ru; exact PySem.P.repr_of_none ⟨.str _, H, I.tok _, ⟨_, rfl⟩, q⟩
  | bl b => cases ru; exact PySem.P.repr_of_bool ⟨.str _, H, I.tok _, ⟨_, rfl⟩, q⟩
  | int i =>
    obtain ⟨t, rfl⟩ := ru
    exact PySem.P.repr_of_int (by simpa [PyData.showable] using h1) ⟨.str _, H, I.tok _, ⟨_, rfl⟩, q⟩
  | str y =>
    obtain ⟨t, rfl⟩ := ru
    exact PySem.P.repr_of_str ⟨.str _, H, I.tok _, ⟨_, rfl⟩, q⟩ h4
  | lst a b =>
    cases ru
    exact repr_of_reads' hr h1 (PyData.noDict_hsm h3) gd (by omega) (fun _ _ z => z) (fun h' u tk hk => ⟨.str _, H, I.kept hk, ⟨_, rfl⟩, q⟩) h4
  | tup a b =>
    cases ru
    exact repr_of_reads' hr h1 (PyData.noDict_hsm h3) gd (by omega) (fun _ _ z => z) (fun h' u tk hk => ⟨.str _, H, I.kept hk, ⟨_, rfl⟩, q⟩) h4
end
end DL

namespace DL
open PySem PySem.Spec PyProof.Rows L2

/-! ### promises over data -/
def spP (K : PySem.W.Frag) (np : Nat) (g : List D → Option D) : Sp := fun vs H Q _ => ∃ F ds d, Same F H ∧ RpAll K F vs ds ∧ ds.length = np ∧ g ds = some d ∧ ∀ x F' H', New F H F' H' → Rp K F' x d → Q x H'
def spN (K : PySem.W.Frag) (np : Nat) (g : List D → Option (List D)) : Sp := fun vs H Q _ => ∃ F ds d, Same F H ∧ RpAll K F vs ds ∧ ds.length = np ∧ g ds = some d ∧
  ∀ p F' H' xs, New F H F' H' → F' p = none → H p = none → H' p = some (.lst xs) → RpAll K F' xs d → Q (.ref p) H'
structure NewI (F H F' H' : Hp) (a : Addr) : Prop where
  ff : Same F F'
  fh : Same F' H'
  hh : ∀ b o, H b = some o → b ≠ a → H' b = some o
  nw : ∀ b o, F' b = some o → F b = some o ∨ H b = none
  fa : F' a = none
def spI (K : PySem.W.Frag) (np : Nat) (g : D → List D → Option (D × D)) : Sp := fun vs H Q _ => ∃ F a vs' d0 ds d d1, vs = .ref a :: vs' ∧ Same F H ∧ F a = none ∧ ObR K F H a d0 ∧ RpAll K F vs' ds ∧ ds.length = np ∧ g d0 ds = some (d, d1) ∧
  ∀ x F' H', NewI F H F' H' a → ObR K F' H' a d1 → Rp K F' x d → Q x H'

section
variable {X : Cx} {n : Nat} {a b c : Expr} {es : List Expr} {pos p : Pos} {fa fb fc : ME D} {fs : ME (List D)} {x : Str} {k : Nat} {f : Addr} {fd : FuncData} {ps : List Str}
def cl (np : Nat) (g : List D → Option D) (fs : ME (List D)) : ME D := bd fs fun ds => lf (if ds.length = np then g ds else none)
def clL (np : Nat) (g : List D → Option (List D)) (fs : ME (List D)) : ME (List D) := bd fs fun ds => lf (if ds.length = np then g ds else none)
theorem e_call {np : Nat} {g : List D → Option D} (F : FnG X.prog X.w X.K X.mg X.base k f fd ps (spP X.K np g)) (room : Room k X.A) (gd : X.A.guards = some []) (hm : X.mg x = some (.ref f)) (hk : PySem.W.keepIn X.K (.ref f) = true) (bd' : Binds X.K fd ps [])
    (ha : DA X n (a :: es) fs) (hg : Gl X x := by rfl) (hdb : (x == ("__debug__" : Str)) = false := by decide) (he : starEach (a :: es) X.env = (false, eval a X.env) :: starEach es X.env := by rfl) (hpl : (backTo pos (starEach es X.env)).any (·.1) = false := by rfl) :
    DE X n (.Call (.Name x p) (a :: es) [] pos) (cl np g fs) := by
  obtain ⟨t, pt, r⟩ := ha
  refine ⟨_, pe_callG F room gd hm hk bd' pt hg hdb he hpl, fun io F0 σ H e d e' hn R h Q q => ?_⟩
  obtain ⟨ds, e1, h1, h⟩ := bd_some h
  obtain ⟨h2, rfl⟩ := lf_some h
  split at h2
  · rename_i hl
    refine r io F0 σ H e ds e' hn R h1 _ fun xs F1 H1 R1 S1 r1 => ?_
    show spP X.K np g (xs ++ []) H1 Q E0
    rw [List.append_nil]
    refine ⟨F1, ds, d, R1.ex, r1, hl, h2, fun z F2 H2 N2 r2 => ?_⟩
    obtain ⟨R2, S2⟩ := R1.new N2
    exact q z F2 H2 R2 (S1.trans S2) r2
  · cases h2
theorem e_call0 {g : List D → Option D} (F : FnG X.prog X.w X.K X.mg X.base k f fd ps (spP X.K 0 g)) (room : Room k X.A) (gd : X.A.guards = some []) (hm : X.mg x = some (.ref f)) (hk : PySem.W.keepIn X.K (.ref f) = true) (bd' : Binds X.K fd ps [])
    (hg : Gl X x := by rfl) (hdb : (x == ("__debug__" : Str)) = false := by decide) : DE X n (.Call (.Name x p) [] [] pos) (cl 0 g aNil) := by
  refine ⟨_, pe_call0G F room gd hm hk bd' hg hdb, fun io F0 σ H e d e' hn R h Q q => ?_⟩
  obtain ⟨ds, e1, h1, h⟩ := bd_some h
  obtain ⟨h2, rfl⟩ := lf_some h
  cases h1
  rw [if_pos (by rfl)] at h2
  show spP X.K 0 g ([] ++ []) H Q E0
  refine ⟨F0, [], d, R.ex, .nil, rfl, h2, fun z F2 H2 N2 r2 => ?_⟩
  obtain ⟨R2, S2⟩ := R.new N2
  exact q z F2 H2 R2 S2 r2
theorem fresh_own {K : PySem.W.Frag} {io : List Addr} {F H F' H' : Hp} {σ : L2.St} {e : En} {q : Addr} (R : Rn K io F σ H e) (h : H q = none) : ¬ Own σ e q := fun z => by
  obtain ⟨_, o, w⟩ := R.owned z
  rw [h] at w; cases w
theorem n_call {np : Nat} {g : List D → Option (List D)} (F : FnG X.prog X.w X.K X.mg X.base k f fd ps (spN X.K np g)) (room : Room k X.A) (gd : X.A.guards = some []) (hm : X.mg x = some (.ref f)) (hk : PySem.W.keepIn X.K (.ref f) = true) (bd' : Binds X.K fd ps [])
    (ha : DA X n (a :: es) fs) (hg : Gl X x := by rfl) (hdb : (x == ("__debug__" : Str)) = false := by decide) (he : starEach (a :: es) X.env = (false, eval a X.env) :: starEach es X.env := by rfl) (hpl : (backTo pos (starEach es X.env)).any (·.1) = false := by rfl) :
    DN X n (.Call (.Name x p) (a :: es) [] pos) (clL np g fs) := by
  obtain ⟨t, pt, r⟩ := ha
  refine ⟨_, pe_callG F room gd hm hk bd' pt hg hdb he hpl, fun io F0 σ H e d e' hn R h Q q => ?_⟩
  obtain ⟨ds, e1, h1, h⟩ := bd_some h
  obtain ⟨h2, rfl⟩ := lf_some h
  split at h2
  · rename_i hl
    refine r io F0 σ H e ds e' hn R h1 _ fun xs F1 H1 R1 S1 r1 => ?_
    show spN X.K np g (xs ++ []) H1 Q E0
    rw [List.append_nil]
    refine ⟨F1, ds, d, R1.ex, r1, hl, h2, fun z F2 H2 ys N2 z1 z2 z3 r2 => ?_⟩
    obtain ⟨R2, S2⟩ := R1.new N2
    exact q z F2 H2 ys R2 (S1.trans S2) z1 (S1.dm z z2) (fresh_own (F' := F2) (H' := H2) R1 z2) z3 r2
  · cases h2
/-- the first argument an owned slot that the callee may change -/
def clI (np : Nat) (g : D → List D → Option (D × D)) (i : Nat) (fs : ME (List D)) : ME D := fun e => match e[i]? with
  | some (.o _) => match fs e with
    | some (ds, e1) => match e1[i]? with
      | some (.o d0) => if ds.length = np then match g d0 ds with
          | some (d, d1) => some (d, e1.set i (.o d1))
          | none => none
        else none
      | _ => none
    | none => none
  | _ => none
theorem Rn.setO {K : PySem.W.Frag} {io : List Addr} {F H F' H' : Hp} {σ : L2.St} {e : En} {i : Nat} {d d1 : D} {a : Addr} (R : Rn K io F σ H e) (he : e[i]? = some (.o d)) (ha : σ[i]? = some (some (.ref a))) (N : NewI F H F' H' a) (o : ObR K F' H' a d1) :
    Rn K io F' σ H' (e.set i (.o d1)) ∧ Step σ e F H σ (e.set i (.o d1)) F' H' := by
  have hlt : i < e.length := (List.getElem?_eq_some_iff.mp he).1
  have hat : ∀ (j : Nat) (s : Sl), (e.set i (.o d1))[j]? = some s → (j = i ∧ s = .o d1) ∨ (j ≠ i ∧ e[j]? = some s) := fun j s z => by
    by_cases hj : j = i
    · subst hj
      rw [List.getElem?_set_self hlt] at z
      exact .inl ⟨rfl, (Option.some.inj z).symm⟩
    · rw [List.getElem?_set_ne (Ne.symm hj)] at z
      exact .inr ⟨hj, z⟩
  have own : Own σ e a := ⟨i, d, he, ha⟩
  have hne : ∀ (j : Nat) (dd : D) (b : Addr), j ≠ i → e[j]? = some (.o dd) → σ[j]? = some (some (.ref b)) → b ≠ a := fun j dd b hj z y w => by
    subst w
    exact hj (R.ap j i b dd d z he y ha)
  have keepF : ∀ (b : Addr) (u : HO), H b = some u → F b = none → F' b = none := fun b u h f => by
    cases z : F' b with
    | none => rfl
    | some v =>
      rcases N.nw b v z with y | y
      · rw [f] at y; cases y
      · rw [h] at y; cases y
  refine ⟨⟨N.fh, by rw [List.length_set]; exact R.len, fun j s z => ?_, fun j l b dd dd' z1 z2 z3 z4 => ?_, R.io⟩, ⟨N.ff, fun b u h w => ?_, fun b u h => (N.nw b u h).imp id .inl, fun b w => ?_, fun b w => ?_⟩⟩
  · rcases hat j s z with ⟨rfl, rfl⟩ | ⟨hj, z⟩
    · exact ⟨_, ha, a, rfl, N.fa, o⟩
    · obtain ⟨y, y1, y2⟩ := R.sl j s z
      refine ⟨y, y1, y2.mono N.ff fun dd b e1 e2 => ?_⟩
      subst e1 e2
      obtain ⟨f0, u, hu⟩ := R.owned ⟨j, dd, z, y1⟩
      exact ⟨keepF b u hu f0, (N.hh b u hu (hne j dd b hj z y1)).trans hu.symm⟩
  · rcases hat j _ z1 with ⟨rfl, _⟩ | ⟨hj, w1⟩
    · rcases hat l _ z2 with ⟨rfl, _⟩ | ⟨hl, w2⟩
      · rfl
      · rw [ha] at z3
        cases z3
        exact absurd rfl (hne l dd' _ hl w2 z4)
    · rcases hat l _ z2 with ⟨rfl, _⟩ | ⟨hl, w2⟩
      · rw [ha] at z4
        cases z4
        exact absurd rfl (hne j dd _ hj w1 z3)
      · exact R.ap j l b dd dd' w1 w2 z3 z4
  · exact N.hh b u h fun z => w (z ▸ own)
  · obtain ⟨j, dd, z1, z2⟩ := w
    rcases hat j _ z1 with ⟨rfl, _⟩ | ⟨hj, w1⟩
    · rw [ha] at z2
      cases z2
      exact .inl own
    · exact .inl ⟨j, dd, w1, z2⟩
  · cases z : H b with
    | none => rfl
    | some u =>
      by_cases hb : b = a
      · subst hb
        obtain ⟨v, hv⟩ := o.there
        rw [w] at hv; cases hv
      · have := N.hh b u z hb
        rw [w] at this; cases this
theorem e_callI {np : Nat} {g : D → List D → Option (D × D)} {y : Str} {py : Pos} (i : Nat) (F : FnG X.prog X.w X.K X.mg X.base k f fd ps (spI X.K np g)) (room : Room k X.A) (gd : X.A.guards = some []) (hm : X.mg x = some (.ref f)) (hk : PySem.W.keepIn X.K (.ref f) = true)
    (bd' : Binds X.K fd ps []) (ha : DA X n es fs) (hN : X.N[i]? = some y := by rfl) (hv : Vis X.env.scope y := by first | exact Or.inl rfl | exact Or.inr (Or.inl rfl) | exact Or.inr (Or.inr rfl)) (hd : (y == ("__debug__" : Str)) = false := by decide)
    (hcd : (y == ("__classdict__" : Str)) = false := by decide) (hg : Gl X x := by rfl) (hdb : (x == ("__debug__" : Str)) = false := by decide)
    (he : starEach (.Name y py :: es) X.env = (false, eval (.Name y py) X.env) :: starEach es X.env := by rfl) (hpl : (backTo pos (starEach es X.env)).any (·.1) = false := by rfl) : DE X n (.Call (.Name x p) (.Name y py :: es) [] pos) (clI np g i fs) := by
  obtain ⟨t, pt, r⟩ := ha
  refine ⟨_, pe_callG F room gd hm hk bd' (pa_cons (pe_var hN hv hd hcd) pt he) hg hdb he hpl, fun io F0 σ H e d e' hn R h Q q => ?_⟩
  unfold clI at h
  split at h
  · rename_i d00 h0
    split at h
    · rename_i ds e1 h1
      split at h
      · rename_i d0 h2
        split at h
        · rename_i hl
          split at h
          · rename_i dd d1 h3
            cases h
            obtain ⟨a0, y1, _, _, _⟩ := R.own h0
            refine ⟨.ref a0, y1, r io F0 σ H e ds e1 hn R h1 _ fun xs F1 H1 R1 S1 r1 => ?_⟩
            obtain ⟨a1, z1, z2, z3, _⟩ := R1.own h2
            rw [y1] at z1
            cases z1
            show spI X.K np g ((.ref a0 :: xs) ++ []) H1 Q E0
            rw [List.append_nil]
            refine ⟨F1, a0, xs, d0, ds, d, d1, rfl, R1.ex, z2, z3, r1, hl, h3, fun x F2 H2 N2 o2 r2 => ?_⟩
            obtain ⟨R2, S2⟩ := R1.setO h2 y1 N2 o2
            exact q x F2 H2 R2 (S1.trans S2) r2
          · cases h
        · cases h
      · cases h
    · cases h
  · cases h

/-! ### built-in functions -/
def cb (g : List D → Option D) (fs : ME (List D)) : ME D := bd fs fun ds => lf (g ds)
def cbL (g : List D → Option (List D)) (fs : ME (List D)) : ME (List D) := bd fs fun ds => lf (g ds)
theorem cb_r {K : PySem.W.Frag} {r : List V → Hp → VK → Prop} {g : List D → Option D} {t : TA} (hd : ClD K r g) (ha : DAr K n t fs) : DEr K n (tCB r t) (cb g fs) := by
  intro io F σ H e d e' hn R h Q q
  obtain ⟨ds, e1, h1, h⟩ := bd_some h
  obtain ⟨h2, rfl⟩ := lf_some h
  refine ha io F σ H e ds e' hn R h1 _ fun xs F1 H1 R1 S1 r1 => ?_
  refine hd F1 H1 xs ds d R1.ex r1 h2 Q fun z F2 H2 N2 r2 => ?_
  obtain ⟨R2, S2⟩ := R1.new N2
  exact q z F2 H2 R2 (S1.trans S2) r2
theorem cbL_r {K : PySem.W.Frag} {r : List V → Hp → VK → Prop} {g : List D → Option (List D)} {t : TA} (hd : ClN K r g) (ha : DAr K n t fs) : DNr K n (tCB r t) (cbL g fs) := by
  intro io F σ H e d e' hn R h Q q
  obtain ⟨ds, e1, h1, h⟩ := bd_some h
  obtain ⟨h2, rfl⟩ := lf_some h
  refine ha io F σ H e ds e' hn R h1 _ fun xs F1 H1 R1 S1 r1 => ?_
  refine hd F1 H1 xs ds d R1.ex r1 h2 Q fun z F2 H2 ys N2 z1 z2 z3 r2 => ?_
  obtain ⟨R2, S2⟩ := R1.new N2
  exact q z F2 H2 ys R2 (S1.trans S2) z1 (S1.dm z z2) (fresh_own (F' := F2) (H' := H2) R1 z2) z3 r2
section
variable {id T : String} {r : List V → Hp → VK → Prop}
theorem e_cb {g : List D → Option D} (hc : CallR X (.builtin id) r) (hd : ClD X.K r g) (hm : X.mg x = none) (hv : bootBuiltins x = some (.builtin id)) (ha : DA X n (a :: es) fs) (hg : Gl X x := by rfl) (hn : x ≠ "__name__" := by decide) (hdb : (x == ("__debug__" : Str)) = false := by decide)
    (he : starEach (a :: es) X.env = (false, eval a X.env) :: starEach es X.env := by rfl) (hpl : (backTo pos (starEach es X.env)).any (·.1) = false := by rfl) : DE X n (.Call (.Name x p) (a :: es) [] pos) (cb g fs) := by
  obtain ⟨t, pt, rr⟩ := ha
  exact ⟨_, pe_callB hc hg hm hv pt hn hdb he hpl, cb_r hd rr⟩
theorem n_cb {g : List D → Option (List D)} (hc : CallR X (.builtin id) r) (hd : ClN X.K r g) (hm : X.mg x = none) (hv : bootBuiltins x = some (.builtin id)) (ha : DA X n (a :: es) fs) (hg : Gl X x := by rfl) (hn : x ≠ "__name__" := by decide) (hdb : (x == ("__debug__" : Str)) = false := by decide)
    (he : starEach (a :: es) X.env = (false, eval a X.env) :: starEach es X.env := by rfl) (hpl : (backTo pos (starEach es X.env)).any (·.1) = false := by rfl) : DN X n (.Call (.Name x p) (a :: es) [] pos) (cbL g fs) := by
  obtain ⟨t, pt, rr⟩ := ha
  exact ⟨_, pe_callB hc hg hm hv pt hn hdb he hpl, cbL_r hd rr⟩
theorem e_ct {g : List D → Option D} (hc : CallR X (.type T) r) (hd : ClD X.K r g) (hm : X.mg x = none) (hv : bootBuiltins x = some (.type T)) (ha : DA X n (a :: es) fs) (hg : Gl X x := by rfl) (hn : x ≠ "__name__" := by decide) (hdb : (x == ("__debug__" : Str)) = false := by decide)
    (he : starEach (a :: es) X.env = (false, eval a X.env) :: starEach es X.env := by rfl) (hpl : (backTo pos (starEach es X.env)).any (·.1) = false := by rfl) : DE X n (.Call (.Name x p) (a :: es) [] pos) (cb g fs) := by
  obtain ⟨t, pt, rr⟩ := ha
  exact ⟨_, pe_callTy hc hg hm hv pt hn hdb he hpl, cb_r hd rr⟩
theorem n_ct {g : List D → Option (List D)} (hc : CallR X (.type T) r) (hd : ClN X.K r g) (hm : X.mg x = none) (hv : bootBuiltins x = some (.type T)) (ha : DA X n (a :: es) fs) (hg : Gl X x := by rfl) (hn : x ≠ "__name__" := by decide) (hdb : (x == ("__debug__" : Str)) = false := by decide)
    (he : starEach (a :: es) X.env = (false, eval a X.env) :: starEach es X.env := by rfl) (hpl : (backTo pos (starEach es X.env)).any (·.1) = false := by rfl) : DN X n (.Call (.Name x p) (a :: es) [] pos) (cbL g fs) := by
  obtain ⟨t, pt, rr⟩ := ha
  exact ⟨_, pe_callTy hc hg hm hv pt hn hdb he hpl, cbL_r hd rr⟩
end
end

section
variable {X : Cx} {K : PySem.W.Frag}
theorem rp1 {F : Hp} {xs : List V} {d : D} (h : RpAll K F xs [d]) : ∃ x, xs = [x] ∧ Rp K F x d := by
  cases h with
  | cons h1 h2 => cases h2; exact ⟨_, rfl, h1⟩
theorem rp2 {F : Hp} {xs : List V} {d d' : D} (h : RpAll K F xs [d, d']) : ∃ x y, xs = [x, y] ∧ Rp K F x d ∧ Rp K F y d' := by
  cases h with
  | cons h1 h2 =>
    obtain ⟨y, rfl, r⟩ := rp1 h2
    exact ⟨_, _, rfl, h1, r⟩
def lenD : List D → Option D
  | [.list ds] => some (.int ds.length)
  | [.tuple ds] => some (.int ds.length)
  | [.str z] => if z.length ≤ 1000000 then some (.int z.length) else none
  | _ => none
def rLenA (K : PySem.W.Frag) : List V → Hp → VK → Prop := fun xs H Q => (∃ p ys, xs = [.ref p] ∧ (SqL K H p ys ∨ SqT K H p ys) ∧ Q (.int ys.length) H) ∨ (∃ z, xs = [.str z] ∧ z.length ≤ sizeLine ∧ Q (.int z.length) H)
theorem call_lenA : CallR X (.builtin "len") (rLenA X.K) := CallR.or call_len_seq call_len_str
theorem cd_len : ClD K (rLenA K) lenD := by
  intro F H xs ds d e h hg Q q
  unfold lenD at hg
  split at hg
  · cases hg
    obtain ⟨x, rfl, r⟩ := rp1 h
    obtain ⟨p1, ys, rfl, s1, r1⟩ := rp_list r
    exact .inl ⟨p1, ys, rfl, .inl (sql_of e s1), by rw [r1.len]; exact q _ F H (New.refl e) (.int _)⟩
  · cases hg
    obtain ⟨x, rfl, r⟩ := rp1 h
    obtain ⟨p1, ys, rfl, s1, r1⟩ := rp_tup r
    exact .inl ⟨p1, ys, rfl, .inr (Same.sqt e s1), by rw [r1.len]; exact q _ F H (New.refl e) (.int _)⟩
  · split at hg
    · cases hg
      rename_i hz
      obtain ⟨x, rfl, r⟩ := rp1 h
      rw [rp_str r]
      exact .inr ⟨_, rfl, big_le hz, q _ F H (New.refl e) (.int _)⟩
    · cases hg
  · cases hg
def absD : List D → Option D
  | [.int i] => some (.int (if i < 0 then -i else i))
  | _ => none
theorem cd_abs : ClD K (fun xs H Q => ∃ i, xs = [.int i] ∧ Q (.int (if i < 0 then -i else i)) H) absD := by
  intro F H xs ds d e h hg Q q
  unfold absD at hg
  split at hg
  · cases hg
    obtain ⟨x, rfl, r⟩ := rp1 h
    rw [rp_int r]
    exact ⟨_, rfl, q _ F H (New.refl e) (.int _)⟩
  · cases hg
def max2D : List D → Option D
  | [.int i, .int j] => some (.int (if j > i then j else i))
  | _ => none
theorem cd_max2 : ClD K (fun xs H Q => ∃ i j, xs = [.int i, .int j] ∧ Q (.int (if j > i then j else i)) H) max2D := by
  intro F H xs ds d e h hg Q q
  unfold max2D at hg
  split at hg
  · cases hg
    obtain ⟨x, y, rfl, r1, r2⟩ := rp2 h
    rw [rp_int r1, rp_int r2]
    exact ⟨_, _, rfl, q _ F H (New.refl e) (.int _)⟩
  · cases hg
def min2D : List D → Option D
  | [.int i, .int j] => some (.int (if j < i then j else i))
  | _ => none
theorem cd_min2 : ClD K (fun xs H Q => ∃ i j, xs = [.int i, .int j] ∧ Q (.int (if j < i then j else i)) H) min2D := by
  intro F H xs ds d e h hg Q q
  unfold min2D at hg
  split at hg
  · cases hg
    obtain ⟨x, y, rfl, r1, r2⟩ := rp2 h
    rw [rp_int r1, rp_int r2]
    exact ⟨_, _, rfl, q _ F H (New.refl e) (.int _)⟩
  · cases hg
def intD : List D → Option D
  | [.int i] => some (.int i)
  | [.bool k] => some (.int (if k then 1 else 0))
  | _ => none
theorem cd_int : ClD K (fun xs H Q => (∃ i, xs = [.int i] ∧ Q (.int i) H) ∨ ∃ k, xs = [.bl k] ∧ Q (.int (if k then 1 else 0)) H) intD := by
  intro F H xs ds d e h hg Q q
  unfold intD at hg
  split at hg
  · cases hg
    obtain ⟨x, rfl, r⟩ := rp1 h
    rw [rp_int r]
    exact .inl ⟨_, rfl, q _ F H (New.refl e) (.int _)⟩
  · cases hg
    obtain ⟨x, rfl, r⟩ := rp1 h
    rw [rp_bool r]
    exact .inr ⟨_, rfl, q _ F H (New.refl e) (.int _)⟩
  · cases hg
def strD : List D → Option D
  | [.int i] => if i.natAbs.log2 < 1920 then some (.str (toString i)) else none
  | _ => none
theorem cd_str : ClD K (fun xs H Q => ∃ i, xs = [.int i] ∧ i.natAbs.log2 < 1920 ∧ Q (.str (toString i)) H) strD := by
  intro F H xs ds d e h hg Q q
  unfold strD at hg
  split at hg
  · split at hg
    · cases hg
      rename_i hz
      obtain ⟨x, rfl, r⟩ := rp1 h
      rw [rp_int r]
      exact ⟨_, rfl, hz, q _ F H (New.refl e) (.str _)⟩
    · cases hg
  · cases hg
def okShow (d : D) : Bool := d.showable && decide (d.depth ≤ 60) && !d.hasDict && decide (d.shown.length ≤ 1000000)
def reprD : List D → Option D
  | [d] => if okShow d = true then some (.str d.shown) else none
  | _ => none
def rReprA (K : PySem.W.Frag) : List V → Hp → VK → Prop := fun xs H Q => ∃ x d, xs = [x] ∧ Dp K H x d ∧ d.showable = true ∧ d.depth ≤ 60 ∧ d.hasDict = false ∧ d.shown.length ≤ sizeLine ∧ Q (.str d.shown) H
theorem cd_repr : ClD K (rReprA K) reprD := by
  intro F H xs ds d e h hg Q q
  unfold reprD at hg
  split at hg
  · split at hg
    · cases hg
      rename_i hz
      unfold okShow at hz
      simp only [Bool.and_eq_true, decide_eq_true_eq, Bool.not_eq_true'] at hz
      obtain ⟨x, rfl, r⟩ := rp1 h
      exact ⟨x, _, rfl, Rp.dp e _ _ r, hz.1.1.1, hz.1.1.2, hz.1.2, big_le hz.2, q _ F H (New.refl e) (.str _)⟩
    · cases hg
  · cases hg
def intsOf : List D → Option (List Int)
  | [] => some []
  | .int i :: r => (intsOf r).map (i :: ·)
  | _ => none
theorem intsOf_some : ∀ {ds : List D} {ns : List Int}, intsOf ds = some ns → ds = ns.map PyData.int
  | [], _, h => by cases h; rfl
  | d :: r, ns, h => by
    cases d with
    | int i =>
      unfold intsOf at h
      cases z : intsOf r with
      | none => rw [z] at h; cases h
      | some m => rw [z] at h; cases h; rw [intsOf_some z] <;> rfl
    | none => cases h
    | bool => cases h
    | str => cases h
    | list => cases h
    | tuple => cases h
    | dict => cases h
theorem intsOf_map : ∀ (ns : List Int), intsOf (ns.map PyData.int) = some ns
  | [] => rfl
  | n :: r => by
    show (intsOf (r.map PyData.int)).map (n :: ·) = some (n :: r)
    rw [intsOf_map r] <;> rfl
/-! sum of a tuple -/
section
variable {prog : Program} {w : World} {A : Around} {E : Value → Shared → Prop} {s : Shared} {l : Addr} {its : List Value} {ns : List Int} {Q : Value → Shared → Prop}
theorem sum_tupI {xs : Array (Int × Tok)} (hh : A.handled = none) (hl : s.heap.IsTuple l (intItems xs))
    (h : ∀ h' tk t', (∀ b o, s.heap.get? b = some o → h'.get? b = some o) → Q (.int (preSum (numAt xs) xs.size) t') { s with heap := h', toks := tk }) :
    wpAny (model prog w) A (call (.builtin "sum") [.ref l]) Q E s := by
  have hlt : l < s.heap.objs.size := by obtain ⟨_, e, _⟩ := hl; exact Heap.lt_size e
  refine call_sum_walkG (wpAny_pyIter_tuple hl ⟨_, [s.heap.objs.size, l], [s.heap.objs.size], _, _, _, numAt xs, rfl, Walks.tuple (A := A.in1) hh _ l (Nat.ne_of_lt hlt) (intItems xs), ⟨⟨_, Heap.get?_push_size _ rfl, rfl, rfl⟩, hl.push _⟩, fun b hb => ?_, fun _ _ => intItems_at, fun h' tk t' hk => ?_⟩)
  · show b < (s.heap.push _).objs.size
    rw [Heap.size_push]
    rcases List.mem_cons.mp hb with rfl | hb
    · exact Nat.lt_succ_self _
    · rw [List.mem_singleton.mp hb]
      exact Nat.lt_succ_of_lt hlt
  · have := h h' tk t' fun b o e => hk b o (fun hm => absurd (Heap.lt_size e) ((List.mem_singleton.mp hm) ▸ Nat.lt_irrefl _)) (Heap.get?_push_of_some _ e)
    simpa [intItems] using this
theorem sum_tup (hh : A.handled = none) (hl : s.heap.IsTuple l its.toArray) (hi : IntsAre its ns)
    (h : ∀ h' tk t', (∀ b o, s.heap.get? b = some o → h'.get? b = some o) → Q (.int ns.sum t') { s with heap := h', toks := tk }) : wpAny (model prog w) A (call (.builtin "sum") [.ref l]) Q E s := by
  obtain ⟨xs, e⟩ := hi.allInts.items
  have hn : numsOf (intItems xs).toList = ns := by rw [← e]; exact hi.numsOf
  rw [nums_intItems] at hn
  rw [e] at hl
  refine sum_tupI hh hl fun h' tk t' hk => ?_
  have := h h' tk t' hk
  rw [preSum_eq, List.take_of_length_le (by simp), hn]; exact this
end
def rSumT (K : PySem.W.Frag) : List V → Hp → VK → Prop := fun vs H Q => ∃ (a : Addr) (ns : List Int), vs = [V.ref a] ∧ SqT K H a (ns.map V.int) ∧ Q (.int ns.sum) H
theorem cr_sumT {X : Cx} (hc : X.calm = true) : CallR X (.builtin "sum") (rSumT X.K) := by
  intro pins s σ H vs us Q I r h
  obtain ⟨a, ns, rfl, hs, q⟩ := h
  obtain ⟨its, rv, hl, _⟩ := I.tuple hs
  rw [Vals.ref1 r]
  exact sum_tup (I.ok.hd hc) hl rv.ints fun h' tk t' hk => ⟨.int _, H, I.kept hk, ⟨_, rfl⟩, q⟩
def rSumA (K : PySem.W.Frag) : List V → Hp → VK → Prop := fun vs H Q => rSum K vs H Q ∨ rSumT K vs H Q
theorem cr_sumA {X : Cx} (hc : X.calm = true) : CallR X (.builtin "sum") (rSumA X.K) := by
  intro pins s σ H vs us Q I r h
  rcases h with h | h
  · exact cr_sum hc pins s σ H vs us Q I r h
  · exact cr_sumT hc pins s σ H vs us Q I r h
def sumD : List D → Option D
  | [.list ds] => (intsOf ds).map fun ns => .int ns.sum
  | [.tuple ds] => (intsOf ds).map fun ns => .int ns.sum
  | _ => none
theorem cd_sum : ClD K (rSumA K) sumD := by
  intro F H xs ds d e h hg Q q
  unfold sumD at hg
  split at hg
  · rename_i es
    cases z : intsOf es with
    | none => rw [z] at hg; cases hg
    | some ns =>
      rw [z] at hg; cases hg
      obtain ⟨x, rfl, r⟩ := rp1 h
      obtain ⟨p1, ys, rfl, s1, r1⟩ := rp_list r
      rw [intsOf_some z] at r1
      rw [r1.ints] at s1
      exact .inl ⟨p1, ns, rfl, sql_of e s1, q _ F H (New.refl e) (.int _)⟩
  · rename_i es
    cases z : intsOf es with
    | none => rw [z] at hg; cases hg
    | some ns =>
      rw [z] at hg; cases hg
      obtain ⟨x, rfl, r⟩ := rp1 h
      obtain ⟨p1, ys, rfl, s1, r1⟩ := rp_tup r
      rw [intsOf_some z] at r1
      rw [r1.ints] at s1
      exact .inr ⟨p1, ns, rfl, Same.sqt e s1, q _ F H (New.refl e) (.int _)⟩
  · cases hg
def maxI : List Int → Int
  | [] => 0
  | [a] => a
  | a :: r => if maxI r > a then maxI r else a
def minI : List Int → Int
  | [] => 0
  | [a] => a
  | a :: r => if minI r < a then minI r else a
theorem maxI_spec : ∀ (ns : List Int), ns ≠ [] → maxI ns ∈ ns ∧ ∀ y ∈ ns, y ≤ maxI ns
  | [], h => absurd rfl h
  | [a], _ => ⟨by simp [maxI], fun y hy => by simp at hy; subst hy; simp [maxI]⟩
  | a :: b :: r, _ => by
    obtain ⟨h1, h2⟩ := maxI_spec (b :: r) (by simp)
    unfold maxI
    split
    · exact ⟨List.mem_cons_of_mem _ h1, fun y hy => by rcases List.mem_cons.mp hy with rfl | hy; omega; exact h2 y hy⟩
    · exact ⟨List.mem_cons_self, fun y hy => by rcases List.mem_cons.mp hy with rfl | hy; omega; have := h2 y hy; omega⟩
theorem minI_spec : ∀ (ns : List Int), ns ≠ [] → minI ns ∈ ns ∧ ∀ y ∈ ns, minI ns ≤ y
  | [], h => absurd rfl h
  | [a], _ => ⟨by simp [minI], fun y hy => by simp at hy; subst hy; simp [minI]⟩
  | a :: b :: r, _ => by
    obtain ⟨h1, h2⟩ := minI_spec (b :: r) (by simp)
    unfold minI
    split
    · exact ⟨List.mem_cons_of_mem _ h1, fun y hy => by rcases List.mem_cons.mp hy with rfl | hy; omega; exact h2 y hy⟩
    · exact ⟨List.mem_cons_self, fun y hy => by rcases List.mem_cons.mp hy with rfl | hy; omega; have := h2 y hy; omega⟩
def maxD : List D → Option D
  | [.list ds] => (intsOf ds).bind fun ns => if ns = [] then none else some (.int (maxI ns))
  | _ => none
def minD : List D → Option D
  | [.list ds] => (intsOf ds).bind fun ns => if ns = [] then none else some (.int (minI ns))
  | _ => none
theorem cd_max : ClD K (rMax K) maxD := by
  intro F H xs ds d e h hg Q q
  unfold maxD at hg
  split at hg
  · rename_i es
    cases z : intsOf es with
    | none => rw [z] at hg; cases hg
    | some ns =>
      rw [z] at hg
      by_cases hne : ns = []
      · simp [hne] at hg
      · have hg : some (PyData.int (maxI ns)) = some d := by simpa [hne] using hg
        cases hg
        obtain ⟨x, rfl, r⟩ := rp1 h
        obtain ⟨p1, ys, rfl, s1, r1⟩ := rp_list r
        rw [intsOf_some z] at r1
        rw [r1.ints] at s1
        obtain ⟨w1, w2⟩ := maxI_spec ns hne
        refine ⟨p1, ns, rfl, sql_of e s1, List.length_pos_iff.mpr hne, fun m hm hy => ?_⟩
        have : m = maxI ns := Int.le_antisymm (w2 m hm) (hy _ w1)
        rw [this]
        exact q _ F H (New.refl e) (.int _)
  · cases hg
theorem cd_min : ClD K (rMin K) minD := by
  intro F H xs ds d e h hg Q q
  unfold minD at hg
  split at hg
  · rename_i es
    cases z : intsOf es with
    | none => rw [z] at hg; cases hg
    | some ns =>
      rw [z] at hg
      by_cases hne : ns = []
      · simp [hne] at hg
      · have hg : some (PyData.int (minI ns)) = some d := by simpa [hne] using hg
        cases hg
        obtain ⟨x, rfl, r⟩ := rp1 h
        obtain ⟨p1, ys, rfl, s1, r1⟩ := rp_list r
        rw [intsOf_some z] at r1
        rw [r1.ints] at s1
        obtain ⟨w1, w2⟩ := minI_spec ns hne
        refine ⟨p1, ns, rfl, sql_of e s1, List.length_pos_iff.mpr hne, fun m hm hy => ?_⟩
        have : m = minI ns := Int.le_antisymm (hy _ w1) (w2 m hm)
        rw [this]
        exact q _ F H (New.refl e) (.int _)
  · cases hg
def bsOf : List D → Option (List Bool)
  | [] => some []
  | .bool i :: r => (bsOf r).map (i :: ·)
  | _ => none
theorem bsOf_some : ∀ {ds : List D} {ns : List Bool}, bsOf ds = some ns → ds = ns.map PyData.bool
  | [], _, h => by cases h; rfl
  | d :: r, ns, h => by
    cases d with
    | bool i =>
      unfold bsOf at h
      cases z : bsOf r with
      | none => rw [z] at h; cases h
      | some m => rw [z] at h; cases h; rw [bsOf_some z] <;> rfl
    | none => cases h
    | int => cases h
    | str => cases h
    | list => cases h
    | tuple => cases h
    | dict => cases h
theorem bsOf_map : ∀ (ns : List Bool), bsOf (ns.map PyData.bool) = some ns
  | [] => rfl
  | n :: r => by
    show (bsOf (r.map PyData.bool)).map (n :: ·) = some (n :: r)
    rw [bsOf_map r] <;> rfl
def allD : List D → Option D
  | [.list ds] => (bsOf ds).map fun ns => .bool (ns.all id)
  | _ => none
def anyD : List D → Option D
  | [.list ds] => (bsOf ds).map fun ns => .bool (ns.any id)
  | _ => none
theorem cd_all : ClD K (rAll K) allD := by
  intro F H xs ds d e h hg Q q
  unfold allD at hg
  split at hg
  · rename_i es
    cases z : bsOf es with
    | none => rw [z] at hg; cases hg
    | some ns =>
      rw [z] at hg; cases hg
      obtain ⟨x, rfl, r⟩ := rp1 h
      obtain ⟨p1, ys, rfl, s1, r1⟩ := rp_list r
      rw [bsOf_some z] at r1
      rw [r1.bls] at s1
      exact ⟨p1, ns, rfl, sql_of e s1, q _ F H (New.refl e) (.bl _)⟩
  · cases hg
theorem cd_any : ClD K (rAny K) anyD := by
  intro F H xs ds d e h hg Q q
  unfold anyD at hg
  split at hg
  · rename_i es
    cases z : bsOf es with
    | none => rw [z] at hg; cases hg
    | some ns =>
      rw [z] at hg; cases hg
      obtain ⟨x, rfl, r⟩ := rp1 h
      obtain ⟨p1, ys, rfl, s1, r1⟩ := rp_list r
      rw [bsOf_some z] at r1
      rw [r1.bls] at s1
      exact ⟨p1, ns, rfl, sql_of e s1, q _ F H (New.refl e) (.bl _)⟩
  · cases hg
def tupleD : List D → Option D
  | [.list ds] => some (.tuple ds)
  | [.tuple ds] => some (.tuple ds)
  | _ => none
def rTupA (K : PySem.W.Frag) : List V → Hp → VK → Prop := fun xs H Q => ∃ p ys, xs = [.ref p] ∧ ((SqL K H p ys ∧ ∀ l, H l = none → Q (.ref l) (upd H l (.tup ys))) ∨ (SqT K H p ys ∧ Q (.ref p) H))
theorem cd_tuple : ClD K (rTupA K) tupleD := by
  intro F H xs ds d e h hg Q q
  unfold tupleD at hg
  split at hg
  · cases hg
    obtain ⟨x, rfl, r⟩ := rp1 h
    obtain ⟨p1, ys, rfl, s1, r1⟩ := rp_list r
    refine ⟨p1, ys, rfl, .inl ⟨sql_of e s1, fun l hl => ?_⟩⟩
    obtain ⟨n2, r2⟩ := laidT e hl r1
    exact q _ _ _ n2 r2
  · cases hg
    obtain ⟨x, rfl, r⟩ := rp1 h
    obtain ⟨p1, ys, rfl, s1, r1⟩ := rp_tup r
    exact ⟨p1, ys, rfl, .inr ⟨Same.sqt e s1, q _ F H (New.refl e) (.tup s1 r1)⟩⟩
  · cases hg
def listL : List D → Option (List D)
  | [.list ds] => some ds
  | [.tuple ds] => some ds
  | _ => none
def rListA (K : PySem.W.Frag) : List V → Hp → VK → Prop := fun xs H Q => ∃ p ys, xs = [.ref p] ∧ (SqL K H p ys ∨ SqT K H p ys) ∧ ∀ l, H l = none → Q (.ref l) (upd H l (.lst ys))
theorem cn_list : ClN K (rListA K) listL := by
  intro F H xs ds d e h hg Q q
  unfold listL at hg
  split at hg
  · cases hg
    obtain ⟨x, rfl, r⟩ := rp1 h
    obtain ⟨p1, ys, rfl, s1, r1⟩ := rp_list r
    exact ⟨p1, ys, rfl, .inl (sql_of e s1), fun l hl => q l F _ ys (New.made e hl) (e.free hl) hl upd_same r1⟩
  · cases hg
    obtain ⟨x, rfl, r⟩ := rp1 h
    obtain ⟨p1, ys, rfl, s1, r1⟩ := rp_tup r
    exact ⟨p1, ys, rfl, .inr (Same.sqt e s1), fun l hl => q l F _ ys (New.made e hl) (e.free hl) hl upd_same r1⟩
  · cases hg
end

section
variable {X : Cx} {n : Nat} {a b : Expr} {es : List Expr} {pos p : Pos} {fa fb : ME D} {fs : ME (List D)}
theorem e_len (hm : X.mg "len" = none) (ha : DA X n [a] fs) (hg : Gl X "len" := by rfl) (he : starEach (a :: []) X.env = (false, eval a X.env) :: starEach [] X.env := by rfl) (hpl : (backTo pos (starEach [] X.env)).any (·.1) = false := by rfl) : DE X n (.Call (.Name "len" p) [a] [] pos) (cb lenD fs) :=
  e_cb call_lenA cd_len hm (by decide +kernel) ha hg (by decide) (by decide) he hpl
theorem e_abs (hm : X.mg "abs" = none) (ha : DA X n [a] fs) (hg : Gl X "abs" := by rfl) (he : starEach (a :: []) X.env = (false, eval a X.env) :: starEach [] X.env := by rfl) (hpl : (backTo pos (starEach [] X.env)).any (·.1) = false := by rfl) : DE X n (.Call (.Name "abs" p) [a] [] pos) (cb absD fs) :=
  e_cb call_abs cd_abs hm (by decide +kernel) ha hg (by decide) (by decide) he hpl
theorem e_int' (hm : X.mg "int" = none) (ha : DA X n [a] fs) (hg : Gl X "int" := by rfl) (he : starEach (a :: []) X.env = (false, eval a X.env) :: starEach [] X.env := by rfl) (hpl : (backTo pos (starEach [] X.env)).any (·.1) = false := by rfl) : DE X n (.Call (.Name "int" p) [a] [] pos) (cb intD fs) :=
  e_ct call_int1 cd_int hm (by decide +kernel) ha hg (by decide) (by decide) he hpl
theorem e_str' (hm : X.mg "str" = none) (ha : DA X n [a] fs) (hg : Gl X "str" := by rfl) (he : starEach (a :: []) X.env = (false, eval a X.env) :: starEach [] X.env := by rfl) (hpl : (backTo pos (starEach [] X.env)).any (·.1) = false := by rfl) : DE X n (.Call (.Name "str" p) [a] [] pos) (cb strD fs) :=
  e_ct call_str_int cd_str hm (by decide +kernel) ha hg (by decide) (by decide) he hpl
theorem e_repr {k : Nat} (room : Room k X.A) (gd : X.A.guards = some []) (hm : X.mg "repr" = none) (ha : DA X n [a] fs) (hg : Gl X "repr" := by rfl) (he : starEach (a :: []) X.env = (false, eval a X.env) :: starEach [] X.env := by rfl) (hpl : (backTo pos (starEach [] X.env)).any (·.1) = false := by rfl) : DE X n (.Call (.Name "repr" p) [a] [] pos) (cb reprD fs) :=
  e_cb (call_reprD room.units gd) cd_repr hm (by decide +kernel) ha hg (by decide) (by decide) he hpl
theorem e_sum (hc : X.calm = true) (hm : X.mg "sum" = none) (ha : DA X n [a] fs) (hg : Gl X "sum" := by rfl) (he : starEach (a :: []) X.env = (false, eval a X.env) :: starEach [] X.env := by rfl) (hpl : (backTo pos (starEach [] X.env)).any (·.1) = false := by rfl) : DE X n (.Call (.Name "sum" p) [a] [] pos) (cb sumD fs) :=
  e_cb (cr_sumA hc) cd_sum hm (by decide +kernel) ha hg (by decide) (by decide) he hpl
theorem e_max (hc : X.calm = true) (hm : X.mg "max" = none) (ha : DA X n [a] fs) (hg : Gl X "max" := by rfl) (he : starEach (a :: []) X.env = (false, eval a X.env) :: starEach [] X.env := by rfl) (hpl : (backTo pos (starEach [] X.env)).any (·.1) = false := by rfl) : DE X n (.Call (.Name "max" p) [a] [] pos) (cb maxD fs) :=
  e_cb (cr_max hc) cd_max hm (by decide +kernel) ha hg (by decide) (by decide) he hpl
theorem e_min (hc : X.calm = true) (hm : X.mg "min" = none) (ha : DA X n [a] fs) (hg : Gl X "min" := by rfl) (he : starEach (a :: []) X.env = (false, eval a X.env) :: starEach [] X.env := by rfl) (hpl : (backTo pos (starEach [] X.env)).any (·.1) = false := by rfl) : DE X n (.Call (.Name "min" p) [a] [] pos) (cb minD fs) :=
  e_cb (cr_min hc) cd_min hm (by decide +kernel) ha hg (by decide) (by decide) he hpl
theorem e_all (hc : X.calm = true) (hm : X.mg "all" = none) (ha : DA X n [a] fs) (hg : Gl X "all" := by rfl) (he : starEach (a :: []) X.env = (false, eval a X.env) :: starEach [] X.env := by rfl) (hpl : (backTo pos (starEach [] X.env)).any (·.1) = false := by rfl) : DE X n (.Call (.Name "all" p) [a] [] pos) (cb allD fs) :=
  e_cb (cr_all hc) cd_all hm (by decide +kernel) ha hg (by decide) (by decide) he hpl
theorem e_any (hc : X.calm = true) (hm : X.mg "any" = none) (ha : DA X n [a] fs) (hg : Gl X "any" := by rfl) (he : starEach (a :: []) X.env = (false, eval a X.env) :: starEach [] X.env := by rfl) (hpl : (backTo pos (starEach [] X.env)).any (·.1) = false := by rfl) : DE X n (.Call (.Name "any" p) [a] [] pos) (cb anyD fs) :=
  e_cb (cr_any hc) cd_any hm (by decide +kernel) ha hg (by decide) (by decide) he hpl
theorem e_max2 (hc : X.calm = true) (hm : X.mg "max" = none) (ha : DA X n [a, b] fs) (hg : Gl X "max" := by rfl) (he : starEach (a :: [b]) X.env = (false, eval a X.env) :: starEach [b] X.env := by rfl) (hpl : (backTo pos (starEach [b] X.env)).any (·.1) = false := by rfl) : DE X n (.Call (.Name "max" p) [a, b] [] pos) (cb max2D fs) :=
  e_cb (call_max2 hc) cd_max2 hm (by decide +kernel) ha hg (by decide) (by decide) he hpl
theorem e_min2 (hc : X.calm = true) (hm : X.mg "min" = none) (ha : DA X n [a, b] fs) (hg : Gl X "min" := by rfl) (he : starEach (a :: [b]) X.env = (false, eval a X.env) :: starEach [b] X.env := by rfl) (hpl : (backTo pos (starEach [b] X.env)).any (·.1) = false := by rfl) : DE X n (.Call (.Name "min" p) [a, b] [] pos) (cb min2D fs) :=
  e_cb (call_min2 hc) cd_min2 hm (by decide +kernel) ha hg (by decide) (by decide) he hpl
theorem e_tuple (hm : X.mg "tuple" = none) (ha : DA X n [a] fs) (hg : Gl X "tuple" := by rfl) (he : starEach (a :: []) X.env = (false, eval a X.env) :: starEach [] X.env := by rfl) (hpl : (backTo pos (starEach [] X.env)).any (·.1) = false := by rfl) : DE X n (.Call (.Name "tuple" p) [a] [] pos) (cb tupleD fs) :=
  e_ct call_tuple_of cd_tuple hm (by decide +kernel) ha hg (by decide) (by decide) he hpl
theorem n_list (hm : X.mg "list" = none) (ha : DA X n [a] fs) (hg : Gl X "list" := by rfl) (he : starEach (a :: []) X.env = (false, eval a X.env) :: starEach [] X.env := by rfl) (hpl : (backTo pos (starEach [] X.env)).any (·.1) = false := by rfl) : DN X n (.Call (.Name "list" p) [a] [] pos) (cbL listL fs) :=
  n_ct call_list_of cn_list hm (by decide +kernel) ha hg (by decide) (by decide) he hpl
end
end DL

namespace DL
open PySem PySem.Spec PyProof.Rows L2

section
variable {K : PySem.W.Frag} {io : List Addr} {F H : Hp} {σ : L2.St} {e : En}
theorem set_at {α : Type} {l : List α} {i j : Nat} {a b : α} (h : (l.set i a)[j]? = some b) : (j = i ∧ b = a ∧ i < l.length) ∨ (j ≠ i ∧ l[j]? = some b) := by
  by_cases hj : j = i
  · subst hj
    by_cases hl : j < l.length
    · rw [List.getElem?_set_self hl] at h
      exact .inl ⟨rfl, (Option.some.inj h).symm, hl⟩
    · rw [List.getElem?_eq_none (by rw [List.length_set]; omega)] at h
      cases h
  · rw [List.getElem?_set_ne (Ne.symm hj)] at h
    exact .inr ⟨hj, h⟩
/-- a value is put into a slot -/
theorem Rn.put (R : Rn K io F σ H e) {i : Nat} {v : V} {s : Sl} (hi : io.length ≤ i) (hs : SlotR K F H (some v) s) (hu : ∀ d a, s = .o d → v = .ref a → ¬ Own σ e a) : Rn K io F (σ.set i (some v)) H (e.set i s) where
  ex := R.ex
  len := by rw [List.length_set, List.length_set]; exact R.len
  sl := fun j t h => by
    rcases set_at h with ⟨rfl, rfl, hl⟩ | ⟨hj, h⟩
    · exact ⟨some v, List.getElem?_set_self (by rw [R.len]; exact hl), hs⟩
    · obtain ⟨x, q, r⟩ := R.sl j t h
      exact ⟨x, by rw [List.getElem?_set_ne (Ne.symm hj)]; exact q, r⟩
  ap := fun j l a d d' h1 h2 h3 h4 => by
    rcases set_at h1 with ⟨y1, z1, hl⟩ | ⟨hj, k1⟩
    · rcases set_at h2 with ⟨y2, z2, _⟩ | ⟨hl2, k2⟩
      · rw [y1, y2]
      · rw [y1, List.getElem?_set_self (by rw [R.len]; exact hl)] at h3
        rw [List.getElem?_set_ne (Ne.symm hl2)] at h4
        have e3 : v = .ref a := Option.some.inj (Option.some.inj h3)
        exact absurd ⟨l, d', k2, h4⟩ (hu d a z1.symm e3)
    · rcases set_at h2 with ⟨y2, z2, hl⟩ | ⟨hl2, k2⟩
      · rw [y2, List.getElem?_set_self (by rw [R.len]; exact hl)] at h4
        rw [List.getElem?_set_ne (Ne.symm hj)] at h3
        have e3 : v = .ref a := Option.some.inj (Option.some.inj h4)
        exact absurd ⟨j, d, k1, h3⟩ (hu d' a z2.symm e3)
      · rw [List.getElem?_set_ne (Ne.symm hj)] at h3
        rw [List.getElem?_set_ne (Ne.symm hl2)] at h4
        exact R.ap j l a d d' k1 k2 h3 h4
  io := fun j a h => by
    have : j < io.length := (List.getElem?_eq_some_iff.mp h).1
    rw [List.getElem?_set_ne (by omega)]
    exact R.io j a h
theorem Own.put {i : Nat} {v : V} {s : Sl} {b : Addr} (hl : σ.length = e.length) (h : Own (σ.set i (some v)) (e.set i s) b) : Own σ e b ∨ (v = .ref b ∧ ∃ d, s = .o d) := by
  obtain ⟨j, d, h1, h2⟩ := h
  rcases set_at h1 with ⟨rfl, z, hlt⟩ | ⟨hj, h1⟩
  · rw [List.getElem?_set_self (by rw [hl]; exact hlt)] at h2
    exact .inr ⟨Option.some.inj (Option.some.inj h2), d, z.symm⟩
  · rw [List.getElem?_set_ne (Ne.symm hj)] at h2
    exact .inl ⟨j, d, h1, h2⟩
theorem Step.put {σ0 : L2.St} {e0 : En} {F0 H0 : Hp} (S : Step σ0 e0 F0 H0 σ e F H) (hl : σ.length = e.length) {i : Nat} {v : V} {s : Sl} (hu : ∀ d a, s = .o d → v = .ref a → Own σ0 e0 a ∨ H0 a = none) : Step σ0 e0 F0 H0 (σ.set i (some v)) (e.set i s) F H :=
  ⟨S.ex, S.fr, S.nw, fun b h => by
    rcases Own.put hl h with h | ⟨h1, d, h2⟩
    · exact S.ow b h
    · exact hu d b h2 h1, S.dm⟩
end

/-! ### statements -/
def asgS (i : Nat) (f : ME D) : ME Fl := fun e => match f e with
  | some (d, e1) => some (.nx, e1.set i (.v d))
  | none => none
def asgO (i : Nat) (f : ME (List D)) : ME Fl := fun e => match f e with
  | some (d, e1) => some (.nx, e1.set i (.o (.list d)))
  | none => none
def drp (f : ME D) : ME Fl := fun e => match f e with
  | some (_, e1) => some (.nx, e1)
  | none => none
def retS (f : ME D) : ME Fl := fun e => match f e with
  | some (d, e1) => some (.rt d, e1)
  | none => none
def retN (f : ME (List D)) : ME Fl := fun e => match f e with
  | some (d, e1) => some (.rn (.list d), e1)
  | none => none
def nxS : ME Fl := rt .nx
def nevS : ME Fl := fun _ => none
def seqS (f g : ME Fl) : ME Fl := fun e => match f e with
  | some (.nx, e1) => g e1
  | some (fl, e1) => some (fl, e1)
  | none => none
def ifS (c : ME Bool) (f g : ME Fl) : ME Fl := fun e => match c e with
  | some (b, e1) => if b = true then f e1 else g e1
  | none => none
section
variable {X : Cx} {n : Nat} {a b c : Expr} {es : List Expr} {pos p : Pos} {fa fb : ME D} {fs : ME (List D)} {x : Str} {st : Stmt} {sts sts2 : List Stmt} {g g2 : ME Fl}
theorem asg_r {t : TE} {i : Nat} (hi : n ≤ i) (r : DEr X.K n t fa) : DSr X.K n (tAsg t (gName i)) (asgS i fa) := by
  intro io F σ H e fl e' hn R h D E
  unfold asgS at h
  split at h
  · rename_i d e1 h1
    cases h
    refine r io F σ H e d e1 hn R h1 _ fun v F1 H1 R1 S1 r1 => ?_
    exact E _ F1 H1 (R1.put (by omega) ⟨v, rfl, r1⟩ fun _ _ z => by cases z) (S1.put R1.len fun _ _ z => by cases z)
  · cases h
theorem asgO_r {t : TE} {i : Nat} (hi : n ≤ i) (r : DNr X.K n t fs) : DSr X.K n (tAsg t (gName i)) (asgO i fs) := by
  intro io F σ H e fl e' hn R h D E
  unfold asgO at h
  split at h
  · rename_i d e1 h1
    cases h
    refine r io F σ H e d e1 hn R h1 _ fun q F1 H1 xs R1 S1 q1 q2 q3 q4 r1 => ?_
    refine E _ F1 H1 (R1.put (by omega) ⟨q, rfl, q1, xs, q4, r1⟩ fun dd w z1 z2 => ?_) (S1.put R1.len fun dd w z1 z2 => ?_)
    · cases z2; exact q3
    · cases z2; exact .inr q2
  · cases h
theorem s_asg (i : Nat) {p' : Pos} (hi : n ≤ i) (hN : X.N.Nodup) (hx : X.N[i]? = some x) (hl : Loc X.env.scope x) (ha : DE X n a fa) (hs : swapsWith a (some (.Name x p')) pos.line X.env = pure false := by rfl)
    (hf : X.fn x = true ∨ X.env.scope.names.lookup x = some .local := by first | exact .inl rfl | exact .inr rfl | assumption) : DS X n (.Assign [.Name x p'] a pos) (asgS i fa) := by
  obtain ⟨t, pt, r⟩ := ha
  exact ⟨_, ps_set hN hx hl pt hs hf, asg_r hi r⟩
theorem s_asgO (i : Nat) {p' : Pos} (hi : n ≤ i) (hN : X.N.Nodup) (hx : X.N[i]? = some x) (hl : Loc X.env.scope x) (ha : DN X n a fs) (hs : swapsWith a (some (.Name x p')) pos.line X.env = pure false := by rfl)
    (hf : X.fn x = true ∨ X.env.scope.names.lookup x = some .local := by first | exact .inl rfl | exact .inr rfl | assumption) : DS X n (.Assign [.Name x p'] a pos) (asgO i fs) := by
  obtain ⟨t, pt, r⟩ := ha
  exact ⟨_, ps_set hN hx hl pt hs hf, asgO_r hi r⟩
theorem s_expr (ha : DE X n a fa) (hs : swapsWith a none pos.line X.env = pure false := by rfl) : DS X n (.Expr a pos) (drp fa) := by
  obtain ⟨t, pt, r⟩ := ha
  refine ⟨_, ps_expr pt hs, fun io F σ H e fl e' hn R h D E => ?_⟩
  unfold drp at h
  split at h
  · rename_i d e1 h1
    cases h
    exact r io F σ H e d _ hn R h1 _ fun v F1 H1 R1 S1 r1 => E _ F1 H1 R1 S1
  · cases h
theorem s_ret (ha : DE X n a fa) : DS X n (.Return (some a) pos) (retS fa) := by
  obtain ⟨t, pt, r⟩ := ha
  refine ⟨_, ps_ret pt, fun io F σ H e fl e' hn R h D E => ?_⟩
  unfold retS at h
  split at h
  · rename_i d e1 h1
    cases h
    exact r io F σ H e d _ hn R h1 _ fun v F1 H1 R1 S1 r1 => E v _ F1 H1 R1 S1 r1
  · cases h
theorem s_retN (ha : DN X n a fs) : DS X n (.Return (some a) pos) (retN fs) := by
  obtain ⟨t, pt, r⟩ := ha
  refine ⟨_, ps_ret pt, fun io F σ H e fl e' hn R h D E => ?_⟩
  unfold retN at h
  split at h
  · rename_i d e1 h1
    cases h
    exact r io F σ H e d _ hn R h1 _ fun q F1 H1 xs R1 S1 q1 q2 q3 q4 r1 => E q _ F1 H1 R1 S1 q1 (.inr q2) q3 ⟨xs, q4, r1⟩
  · cases h
theorem s_pass : DS X n (.Pass pos) nxS := ⟨_, ps_pass, fun io F σ H e fl e' hn R h D E => by cases h; exact E σ F H R .refl⟩
theorem s_break : DS X n (.Break pos) (rt .bk) := ⟨_, ps_break, fun io F σ H e fl e' hn R h D E => by cases h; exact E σ F H R .refl⟩
theorem s_never : DS X n st nevS := ⟨_, ps_never, fun io F σ H e fl e' hn R h D E => by cases h⟩
theorem EndR.step {K : PySem.W.Frag} {io : List Addr} {D : Ends} {σ σ1 : L2.St} {e e1 e' : En} {F F1 H H1 : Hp} {fl : Fl} (S : Step σ e F H σ1 e1 F1 H1) (E : EndR K io D σ e F H e' fl) : EndR K io D σ1 e1 F1 H1 e' fl := by
  cases fl with
  | nx => exact fun σ' F' H' R' S' => E σ' F' H' R' (S.trans S')
  | bk => exact fun σ' F' H' R' S' => E σ' F' H' R' (S.trans S')
  | ct => exact fun σ' F' H' R' S' => E σ' F' H' R' (S.trans S')
  | rt d => exact fun x σ' F' H' R' S' r => E x σ' F' H' R' (S.trans S') r
  | rn d =>
    refine fun p σ' F' H' R' S' q1 q2 q3 r => E p σ' F' H' R' (S.trans S') q1 ?_ q3 r
    rcases q2 with z | z
    · exact S.ow p z
    · exact .inr (S.dm p z)
theorem b_nil : DB X n [] nxS := ⟨_, pss_nil, fun io F σ H e fl e' hn R h D E => by cases h; exact E σ F H R .refl⟩
theorem b_one (h : DS X n st g) : DB X n [st] g := by
  obtain ⟨t, p, r⟩ := h
  exact ⟨t, pss_one p, r⟩
theorem b_cons (h1 : DS X n st g) (h2 : DB X n sts g2) : DB X n (st :: sts) (seqS g g2) := by
  obtain ⟨t, p, r⟩ := h1
  obtain ⟨t2, p2, r2⟩ := h2
  refine ⟨_, pss_cons p p2, fun io F σ H e fl e' hn R h D E => ?_⟩
  show t { D with nx := t2 D } σ H
  unfold seqS at h
  split at h
  · rename_i e1 h1
    exact r io F σ H e .nx e1 hn R h1 _ fun σ1 F1 H1 R1 S1 => r2 io F1 σ1 H1 e1 fl e' hn R1 h D (E.step S1)
  · rename_i fl1 e1 hne h1
    cases h
    refine r io F σ H e fl e' hn R h1 _ ?_
    cases fl with
    | nx => exact absurd rfl hne
    | bk => exact E
    | ct => exact E
    | rt d => exact E
    | rn d => exact E
  · cases h
theorem s_if {ga : ME Bool} (hc : DT X n c ga) (h1 : DB X n sts g) (h2 : DB X n sts2 g2) : DS X n (.If c sts sts2 pos) (ifS ga g g2) := by
  obtain ⟨t0, p0, r0⟩ := hc
  obtain ⟨t, p, r⟩ := h1
  obtain ⟨t2, p2, r2⟩ := h2
  refine ⟨_, ps_if p0 p p2, fun io F σ H e fl e' hn R h D E => ?_⟩
  unfold ifS at h
  split at h
  · rename_i k e1 hk
    refine r0 io F σ H e k e1 hn R hk _ fun F1 H1 R1 S1 => ?_
    cases k with
    | true => exact r io F1 σ H1 e1 fl e' hn R1 h D (E.step S1)
    | false => exact r2 io F1 σ H1 e1 fl e' hn R1 h D (E.step S1)
  · cases h
/-- while, by fuel -/
def whF (c : ME Bool) (f : ME Fl) : Nat → ME Fl
  | 0 => fun _ => none
  | m + 1 => fun e => match c e with
    | none => none
    | some (false, e1) => some (.nx, e1)
    | some (true, e1) => match f e1 with
      | some (.nx, e2) => whF c f m e2
      | some (.ct, e2) => whF c f m e2
      | some (.bk, e2) => some (.nx, e2)
      | some (.rt d, e2) => some (.rt d, e2)
      | some (.rn d, e2) => some (.rn d, e2)
      | none => none
def fuel : Nat := 1000000000000000000000
def whS (c : ME Bool) (f : ME Fl) : ME Fl := whF c f fuel
theorem s_while {ga : ME Bool} (hp : PassesOwn (model X.prog X.w) X.A X.env X.xe) (hc : DT X n c ga) (hb : DB X n sts g) : DS X n (.While c sts [] pos) (whS ga g) := by
  obtain ⟨t0, p0, r0⟩ := hc
  obtain ⟨t, p, r⟩ := hb
  refine ⟨_, ps_while hp p0 p, fun io F σ H e fl e' hn R h D E => ?_⟩
  refine ⟨fun m σ' H' => ∃ F' e1, Rn X.K io F' σ' H' e1 ∧ whF ga g m e1 = some (fl, e') ∧ EndR X.K io D σ' e1 F' H' e' fl, ⟨fuel, F, e, R, h, E⟩, fun m σ1 H1 hw => ?_⟩
  obtain ⟨F1, e1, R1, h1, E1⟩ := hw
  cases m with
  | zero => cases h1
  | succ m =>
    unfold whF at h1
    split at h1
    · cases h1
    · rename_i e2 h2
      cases h1
      refine r0 io F1 σ1 H1 e1 false _ hn R1 h2 _ fun F2 H2 R2 S2 => ?_
      exact E1 σ1 F2 H2 R2 S2
    · rename_i e2 h2
      refine r0 io F1 σ1 H1 e1 true e2 hn R1 h2 _ fun F2 H2 R2 S2 => ?_
      refine ⟨fun σ' H' => ∃ F' e3, Rn X.K io F' σ' H' e3 ∧ whF ga g m e3 = some (fl, e') ∧ EndR X.K io D σ' e3 F' H' e' fl, fun σ3 H3 hN => ⟨m, Nat.lt_succ_self m, hN⟩, ?_⟩
      have E2 := E1.step S2
      split at h1
      · rename_i e3 h3
        exact r io F2 σ1 H2 e2 .nx e3 hn R2 h3 _ fun σ3 F3 H3 R3 S3 => ⟨F3, e3, R3, h1, E2.step S3⟩
      · rename_i e3 h3
        exact r io F2 σ1 H2 e2 .ct e3 hn R2 h3 _ fun σ3 F3 H3 R3 S3 => ⟨F3, e3, R3, h1, E2.step S3⟩
      · rename_i e3 h3
        cases h1
        exact r io F2 σ1 H2 e2 .bk _ hn R2 h3 _ fun σ3 F3 H3 R3 S3 => E2 σ3 F3 H3 R3 S3
      · rename_i d e3 h3
        cases h1
        exact r io F2 σ1 H2 e2 (.rt d) _ hn R2 h3 _ fun x σ3 F3 H3 R3 S3 r3 => E2 x σ3 F3 H3 R3 S3 r3
      · rename_i d e3 h3
        cases h1
        exact r io F2 σ1 H2 e2 (.rn d) _ hn R2 h3 _ fun x σ3 F3 H3 R3 S3 q1 q2 q3 r3 => E2 x σ3 F3 H3 R3 S3 q1 q2 q3 r3
      · cases h1

/-! ### owned slots -/
theorem sig_get {K : PySem.W.Frag} {io : List Addr} {F H : Hp} {σ : L2.St} {e : En} (R : Rn K io F σ H e) {i : Nat} {d : D} (h : e[i]? = some (.o d)) : ∃ a, σ[i]? = some (some (.ref a)) := by
  obtain ⟨a, q, _⟩ := R.own h
  exact ⟨a, q⟩
/-- xs[e], xs an owned list -/
def ixO (i : Nat) (f : ME D) : ME D := fun e => match e[i]? with
  | some (.o _) => match f e with
    | some (.int j, e1) => match e1[i]? with
      | some (.o (.list ds)) => match atI ds j with
        | some d => some (d, e1)
        | none => none
      | _ => none
    | _ => none
  | _ => none
theorem e_ixO (i : Nat) {pn : Pos} (hb : DE X n b fb) (hN : X.N[i]? = some x := by rfl) (hv : Vis X.env.scope x := by first | exact Or.inl rfl | exact Or.inr (Or.inl rfl) | exact Or.inr (Or.inr rfl)) (hd : (x == ("__debug__" : Str)) = false := by decide)
    (hcd : (x == ("__classdict__" : Str)) = false := by decide) (hs : PlainIx b := by exact fun _ _ => rfl) : DE X n (.Subscript (.Name x pn) b pos) (ixO i fb) := by
  obtain ⟨t, p, r⟩ := hb
  refine ⟨_, pe_ix ix_list (pe_var hN hv hd hcd) p hs, fun io F σ H e d e' hn R h Q q => ?_⟩
  unfold ixO at h
  split at h
  · rename_i d00 h0
    split at h
    · rename_i j e1 h1
      split at h
      · rename_i ds h2
        split at h
        · rename_i dd h3
          cases h
          obtain ⟨a0, y1⟩ := sig_get R h0
          refine ⟨.ref a0, y1, r io F σ H e _ _ hn R h1 _ fun xv F1 H1 R1 S1 r1 => ?_⟩
          obtain ⟨a1, z1, z2, ⟨xs, z3, z4⟩, _⟩ := R1.own h2
          rw [y1] at z1; cases z1
          obtain ⟨v, g1, g2⟩ := at_rp z4 h3
          exact ⟨a0, xs, j, v, rfl, rp_int r1, .inl (.inl z3), g1, q v F1 H1 R1 S1 g2⟩
        · cases h
      · cases h
    · cases h
  · cases h
/-- len(xs) -/
def lenO (i : Nat) : ME D := fun e => match e[i]? with
  | some (.o (.list ds)) => some (.int ds.length, e)
  | _ => none
theorem e_lenO (i : Nat) {pn : Pos} (hm : X.mg "len" = none) (hN : X.N[i]? = some x := by rfl) (hv : Vis X.env.scope x := by first | exact Or.inl rfl | exact Or.inr (Or.inl rfl) | exact Or.inr (Or.inr rfl)) (hd : (x == ("__debug__" : Str)) = false := by decide)
    (hcd : (x == ("__classdict__" : Str)) = false := by decide) (hg : Gl X "len" := by rfl) (he : starEach (.Name x pn :: []) X.env = (false, eval (.Name x pn) X.env) :: starEach [] X.env := by rfl) (hpl : (backTo pos (starEach [] X.env)).any (·.1) = false := by rfl) :
    DE X n (.Call (.Name "len" p) [.Name x pn] [] pos) (lenO i) := by
  refine ⟨_, pe_callB call_len_seq hg hm (by decide +kernel) (pa_cons (pe_var hN hv hd hcd) pa_nil he) (by decide) (by decide) he hpl, fun io F σ H e d e' hn R h Q q => ?_⟩
  unfold lenO at h
  split at h
  · rename_i ds h0
    cases h
    obtain ⟨a0, y1, _, ⟨xs, z3, z4⟩, _⟩ := R.own h0
    exact ⟨.ref a0, y1, a0, xs, rfl, .inl (.inl (.inl z3)), by rw [z4.len]; exact q _ F H R .refl (.int _)⟩
  · cases h
theorem NewI.upd {F H : Hp} {a : Addr} {o : HO} (e : Same F H) (f : F a = none) : NewI F H F (upd H a o) a :=
  ⟨Same.refl _, fun b u z => by
    rw [upd_ne (ne_of_none z f)]
    exact e b u z, fun b u z hb => by rw [upd_ne hb]; exact z, fun b u z => .inl z, f⟩
/-- xs[j] = v, xs an owned list -/
def setO (i : Nat) (fi fv : ME D) : ME Fl := fun e => match fv e with
  | some (d, e1) => match e1[i]? with
    | some (.o _) => match fi e1 with
      | some (.int k, e2) => match e2[i]? with
        | some (.o (.list ds)) => match ixN ds.length k with
          | some j => some (.nx, e2.set i (.o (.list (ds.set j d))))
          | none => none
        | _ => none
      | _ => none
    | _ => none
  | none => none
theorem s_setO (i : Nat) {pn ps : Pos} (ha : DE X n a fa) (hb : DE X n b fb) (hN : X.N[i]? = some x := by rfl) (hv : Vis X.env.scope x := by first | exact Or.inl rfl | exact Or.inr (Or.inl rfl) | exact Or.inr (Or.inr rfl)) (hd : (x == ("__debug__" : Str)) = false := by decide)
    (hcd : (x == ("__classdict__" : Str)) = false := by decide)
    (hs : swapsWithSole [.Subscript (.Name x pn) b ps] a pos.line X.env = pure false := by rfl) (hw : swappedStores [.Subscript (.Name x pn) b ps] a X.env = pure none := by rfl)
    (h1 : (assignEach [.Subscript (.Name x pn) b ps] X.env).map (·.2) = [assign (.Subscript (.Name x pn) b ps) X.env] := by rfl)
    (hA : ∀ v, assign (.Subscript (.Name x pn) b ps) X.env v = (do
      let ov ← holding [v] (eval (.Name x pn) X.env)
      let iv ← holding [v, ov] (eval b X.env)
      standAt ps
      holding [v, ov, iv] (setItem ov iv v)
      release [v, ov, iv] []) := by intro _; rfl) : DS X n (.Assign [.Subscript (.Name x pn) b ps] a pos) (setO i fb fa) := by
  obtain ⟨ta, pa, ra⟩ := ha
  obtain ⟨tb, pb, rb⟩ := hb
  refine ⟨_, ps_asg pa (pg_sub (pe_var hN hv hd hcd) pb set_list hA) hs hw h1, fun io F σ H e fl e' hn R h D E => ?_⟩
  unfold setO at h
  split at h
  · rename_i d e1 h1
    split at h
    · rename_i d00 h0
      split at h
      · rename_i k e2 h2
        split at h
        · rename_i ds h3
          split at h
          · rename_i j h4
            cases h
            refine ra io F σ H e d e1 hn R h1 _ fun xv F1 H1 R1 S1 r1 => ?_
            obtain ⟨a0, y1⟩ := sig_get R1 h0
            refine ⟨.ref a0, y1, rb io F1 σ H1 e1 _ e2 hn R1 h2 _ fun kv F2 H2 R2 S2 r2 => ?_⟩
            obtain ⟨a1, z1, z2, ⟨xs, z3, z4⟩, _⟩ := R2.own h3
            rw [y1] at z1; cases z1
            refine ⟨a0, xs, k, j, rfl, rp_int r2, z3, by rw [z4.len]; exact h4, ?_⟩
            obtain ⟨R3, S3⟩ := R2.setO (d1 := .list (ds.set j d)) h3 y1 (NewI.upd (o := .lst (xs.set j xv)) R2.ex z2) ⟨_, upd_same, z4.set j (Rp.mono S2.ex _ _ r1)⟩
            exact E σ F2 _ R3 ((S1.trans S2).trans S3)
          · cases h
        · cases h
      · cases h
    · cases h
  · cases h
/-- xs.append(v) -/
def appO (i : Nat) (fv : ME D) : ME Fl := fun e => match e[i]? with
  | some (.o (.list _)) => match fv e with
    | some (d, e1) => match e1[i]? with
      | some (.o (.list ds)) => if ds.length < 100000 then some (.nx, e1.set i (.o (.list (ds ++ [d])))) else none
      | _ => none
    | none => none
  | _ => none
theorem s_app (i : Nat) {pn pa' pc : Pos} (ha : DE X n a fa) (hN : X.N[i]? = some x := by rfl) (hv : Vis X.env.scope x := by first | exact Or.inl rfl | exact Or.inr (Or.inl rfl) | exact Or.inr (Or.inr rfl)) (hd : (x == ("__debug__" : Str)) = false := by decide)
    (hcd : (x == ("__classdict__" : Str)) = false := by decide)
    (hbase : attributeBase (.Name x pn) "append" X.env (eval (.Name x pn) X.env) = eval (.Name x pn) X.env := by rfl)
    (hfew : ((backTo pc (starEach (a :: []) X.env)).all (fun x => !x.1) && (backToKw pc (keywordEach [] X.env)).all (fun x => x.1.isSome)
      && decide ((a :: []).length + ([] : List Keyword).length + (if ([] : List Keyword).isEmpty then 0 else 1) < 30)) = true := by rfl)
    (hline : (pa'.endLine == pc.line) = true := by rfl) (hs : starEach (a :: []) X.env = (false, eval a X.env) :: starEach [] X.env := by rfl) (hplain : (backTo pc (starEach [] X.env)).any (·.1) = false := by rfl)
    (hsw : swapsWith (.Call (.Attribute (.Name x pn) "append" pa') [a] [] pc) none pos.line X.env = pure false := by rfl) :
    DS X n (.Expr (.Call (.Attribute (.Name x pn) "append" pa') [a] [] pc) pos) (appO i fa) := by
  obtain ⟨ta, pa, ra⟩ := ha
  refine ⟨_, ps_expr (pe_bm PySem.F.plainAttrs_list PySem.F.slot_list_append PySem.F.type_list_append mt_append (pe_var hN hv hd hcd) (pa_cons pa pa_nil hs) hbase hfew hline hs hplain) hsw, fun io F σ H e fl e' hn R h D E => ?_⟩
  unfold appO at h
  split at h
  · rename_i d00 h0
    split at h
    · rename_i d e1 h1
      split at h
      · rename_i ds h2
        split at h
        · rename_i hz
          cases h
          obtain ⟨a0, y1⟩ := sig_get R h0
          have hty : tyV X.K "list" (.ref a0) H := by
            obtain ⟨a1, z1, z2, ⟨xs, w, _⟩, _⟩ := R.own h0
            rw [y1] at z1; cases z1
            exact .inl ⟨rfl, xs, .inl (.inl w)⟩
          refine ⟨.ref a0, y1, hty, ra io F σ H e d e1 hn R h1 _ fun xv F1 H1 R1 S1 r1 => ?_⟩
          obtain ⟨a1, z1, z2, ⟨xs, z3, z4⟩, _⟩ := R1.own h2
          rw [y1] at z1; cases z1
          refine ⟨a0, xs, xv, rfl, rfl, z3, by rw [z4.len]; exact Nat.lt_of_lt_of_le hz (by decide), ?_⟩
          obtain ⟨R3, S3⟩ := R1.setO (d1 := .list (ds ++ [d])) h2 y1 (NewI.upd (o := .lst (xs ++ [xv])) R1.ex z2) ⟨_, upd_same, z4.append (.cons r1 .nil)⟩
          exact E σ F1 _ R3 (S1.trans S3)
        · cases h
      · cases h
    · cases h
  · cases h
/-- x += e, a name that holds an int -/
def addI : D → D → Option D
  | .int i, .int j => some (.int (i + j))
  | _, _ => none
def augS (g : D → D → Option D) (i : Nat) (f : ME D) : ME Fl := fun e => match e[i]? with
  | some (.v d1) => match f e with
    | some (d2, e1) => match g d1 d2 with
      | some d => some (.nx, e1.set i (.v d))
      | none => none
    | none => none
  | _ => none
theorem s_augAdd (i : Nat) {p' : Pos} (hi : n ≤ i) (hN : X.N.Nodup) (hx : X.N[i]? = some x) (hl : Loc X.env.scope x) (ha : DE X n a fa)
    (hf : X.fn x = true ∨ X.env.scope.names.lookup x = some .local := by first | exact .inl rfl | exact .inr rfl | assumption) : DS X n (.AugAssign (.Name x p') .Add a pos) (augS addI i fa) := by
  obtain ⟨ta, pa, ra⟩ := ha
  refine ⟨_, ps_aug hN hx hl pa ip_add hf, fun io F σ H e fl e' hn R h D E => ?_⟩
  unfold augS at h
  split at h
  · rename_i d1 h0
    split at h
    · rename_i d2 e1 h1
      split at h
      · rename_i d h2
        cases h
        obtain ⟨v, y1, y2⟩ := R.val h0
        unfold addI at h2
        split at h2
        · cases h2
          rename_i i1 j1
          refine ⟨v, y1, ra io F σ H e _ e1 hn R h1 _ fun xv F1 H1 R1 S1 r1 => ⟨i1, j1, rp_int y2, rp_int r1, ?_⟩⟩
          exact E _ F1 H1 (R1.put (by omega) ⟨_, rfl, .int _⟩ fun _ _ z => by cases z) (S1.put R1.len fun _ _ z => by cases z)
        · cases h2
      · cases h
    · cases h
  · cases h
end
end DL

namespace DL
open PySem PySem.Spec PyProof.Rows L2

/-! ### targets -/
def DGsr (K : PySem.W.Frag) (n : Nat) (ts : List Nat) (t : TGs) (g : List D → En → Option En) : Prop :=
  ∀ io F σ H e e' xs ds, io.length = n → Rn K io F σ H e → RpAll K F xs ds → g ds e = some e' → ∀ Q : L2.St → Hp → Prop, (∀ σ' F' H', Rn K io F' σ' H' e' → Step σ e F H σ' e' F' H' → OnlyAt ts σ σ' → Q σ' H') → t xs σ H Q
structure DGs (X : Cx) (n : Nat) (ts : List Nat) (a : List Expr) (g : List D → En → Option En) : Prop where
  ex : ∃ t, PGs X a t ∧ DGsr X.K n ts t g
section
variable {X : Cx} {n : Nat} {a b c : Expr} {es : List Expr} {pos p : Pos} {fa fb : ME D} {fs : ME (List D)} {x : Str} {st : Stmt} {sts sts2 : List Stmt} {g g2 : ME Fl}
def gNm (i : Nat) : D → En → Option En := fun d e => some (e.set i (.v d))
def gNilS : List D → En → Option En := fun ds e => match ds with
  | [] => some e
  | _ => none
def gConsS (g : D → En → Option En) (r : List D → En → Option En) : List D → En → Option En := fun ds e => match ds with
  | d :: ds => (g d e).bind (r ds)
  | [] => none
def gTupS (k : Nat) (r : List D → En → Option En) : D → En → Option En := fun d e => match d with
  | .tuple ds => if ds.length = k then r ds e else none
  | _ => none
theorem g_nm (i : Nat) (hi : n ≤ i) (hN : X.N.Nodup) (hx : X.N[i]? = some x) (hl : Loc X.env.scope x) (hf : X.fn x = true ∨ X.env.scope.names.lookup x = some .local := by first | exact .inl rfl | exact .inr rfl | assumption) : DG X n [i] (.Name x pos) (gNm i) := by
  refine ⟨_, pg_name hN hx hl hf, fun io F σ H e e' v d hn R r h Q q => ?_⟩
  cases h
  exact q _ F H (R.put (by omega) ⟨v, rfl, r⟩ fun _ _ z => by cases z) (Step.refl.put R.len fun _ _ z => by cases z) ⟨by rw [List.length_set], fun j hj => List.getElem?_set_ne (fun w => hj (by simp [w]))⟩
theorem gs_nil : DGs X n [] [] gNilS := ⟨_, pgs_nil, fun io F σ H e e' xs ds hn R r h Q q => by
  unfold gNilS at h
  split at h
  · cases h
    cases r
    exact ⟨rfl, q σ F H R .refl ⟨rfl, fun _ _ => rfl⟩⟩
  · cases h⟩
theorem gs_cons {g1 : D → En → Option En} {r1 : List D → En → Option En} {ts us : List Nat} (h1 : DG X n ts a g1) (h2 : DGs X n us es r1) (hs : (assignEach (a :: es) X.env).map (·.2) = assign a X.env :: (assignEach es X.env).map (·.2) := by rfl) : DGs X n (ts ++ us) (a :: es) (gConsS g1 r1) := by
  obtain ⟨t, pt, r⟩ := h1
  obtain ⟨t2, pt2, r2⟩ := h2
  refine ⟨_, pgs_cons pt pt2 hs, fun io F σ H e e' xs ds hn R rr h Q q => ?_⟩
  unfold gConsS at h
  split at h
  · rename_i d ds
    cases z : g1 d e with
    | none => rw [z] at h; cases h
    | some e1 =>
      rw [z] at h
      cases rr with
      | cons q1 q2 =>
        refine ⟨_, _, rfl, r io F σ H e e1 _ d hn R q1 z _ fun σ1 F1 H1 R1 S1 O1 => ?_⟩
        exact r2 io F1 σ1 H1 e1 e' _ ds hn R1 (RpAll.mono S1.ex _ _ q2) h Q fun σ2 F2 H2 R2 S2 O2 => q σ2 F2 H2 R2 (S1.trans S2) (O1.trans O2)
  · cases h
theorem g_tup {k m : Nat} {r1 : List D → En → Option En} {ts : List Nat} (hc : X.calm = true) (h : DGs X n ts es r1) (hn : (assignEach es X.env).length = k := by rfl) (hst : (assignEach es X.env).findIdx? (·.1) = none := by rfl) : DG X n ts (.Tuple es m pos) (gTupS k r1) := by
  obtain ⟨t, pt, r⟩ := h
  refine ⟨_, pg_tup hc pt hn hst, fun io F σ H e e' v d hn' R rr h Q q => ?_⟩
  unfold gTupS at h
  split at h
  · split at h
    · rename_i ds hk
      obtain ⟨a0, xs, rfl, s1, r1⟩ := rp_tup rr
      exact ⟨a0, xs, rfl, Same.sqt R.ex s1, by rw [r1.len]; exact hk, r io F σ H e e' xs ds hn' R r1 h Q q⟩
    · cases h
  · cases h
/-- a target of a tuple that is unpacked -/
def unS (g : D → En → Option En) (f : ME D) : ME Fl := fun e => match f e with
  | some (d, e1) => match g d e1 with
    | some e2 => some (.nx, e2)
    | none => none
  | none => none
theorem s_un {ts : List Nat} {g1 : D → En → Option En} (ha : DE X n a fa) (hg : DG X n ts b g1) (hs : swapsWithSole [b] a pos.line X.env = pure false := by rfl) (hw : swappedStores [b] a X.env = pure none := by rfl)
    (h1 : (assignEach [b] X.env).map (·.2) = [assign b X.env] := by rfl) : DS X n (.Assign [b] a pos) (unS g1 fa) := by
  obtain ⟨t, pt, r⟩ := ha
  obtain ⟨t2, pt2, r2⟩ := hg
  refine ⟨_, ps_asg pt pt2 hs hw h1, fun io F σ H e fl e' hn R h D E => ?_⟩
  unfold unS at h
  split at h
  · rename_i d e1 h1
    split at h
    · rename_i e2 h2
      cases h
      refine r io F σ H e d e1 hn R h1 _ fun v F1 H1 R1 S1 r1 => ?_
      exact r2 io F1 σ H1 e1 e' v d hn R1 r1 h2 _ fun σ2 F2 H2 R2 S2 _ => E σ2 F2 H2 R2 (S1.trans S2)
    · cases h
  · cases h

/-! ### several values, some of them new lists -/
inductive MixR (K : PySem.W.Frag) (F H F' H' : Hp) (σ : L2.St) (e : En) : List V → List Sl → Prop
  | nil : MixR K F H F' H' σ e [] []
  | v {x : V} {d : D} {xs : List V} {ss : List Sl} : Rp K F' x d → MixR K F H F' H' σ e xs ss → MixR K F H F' H' σ e (x :: xs) (.v d :: ss)
  | o {p : Addr} {d : D} {xs : List V} {ss : List Sl} : F' p = none → H p = none → ¬ Own σ e p → ObR K F' H' p d → (∀ (i : Nat) (dd : D), ss[i]? = some (.o dd) → xs[i]? ≠ some (.ref p)) → MixR K F H F' H' σ e xs ss → MixR K F H F' H' σ e (.ref p :: xs) (.o d :: ss)
def DMr (K : PySem.W.Frag) (n : Nat) (t : TA) (f : ME (List Sl)) : Prop :=
  ∀ io F σ H e ss e', io.length = n → Rn K io F σ H e → f e = some (ss, e') → ∀ Q : List V → Hp → Prop, (∀ xs F' H', Rn K io F' σ H' e' → Step σ e F H σ e' F' H' → MixR K F H F' H' σ e' xs ss → Q xs H') → t σ H Q
structure DM (X : Cx) (n : Nat) (a : List Expr) (f : ME (List Sl)) : Prop where
  ex : ∃ t, PA X a t ∧ DMr X.K n t f
theorem MixR.at {K : PySem.W.Frag} {F H F' H' : Hp} {σ : L2.St} {e : En} : ∀ {ss : List Sl} {xs : List V}, MixR K F H F' H' σ e xs ss → ∀ (i : Nat) (d : D) (p : Addr), ss[i]? = some (.o d) → xs[i]? = some (.ref p) → H p = none
  | _, _, .nil, i, d, p, h, _ => by simp at h
  | _, _, .v r m, 0, d, p, h, _ => by simp at h
  | _, _, .v r m, i + 1, d, p, h, g => m.at i d p (by simpa using h) (by simpa using g)
  | _, _, .o h1 h2 h3 h4 h5 m, 0, d, p, h, g => by simp at g; subst g; exact h2
  | _, _, .o h1 h2 h3 h4 h5 m, i + 1, d, p, h, g => m.at i d p (by simpa using h) (by simpa using g)
theorem MixR.back {K : PySem.W.Frag} {F H F1 H1 F' H' : Hp} {σ : L2.St} {e : En} (dm : ∀ b, H1 b = none → H b = none) : ∀ {ss : List Sl} {xs : List V}, MixR K F1 H1 F' H' σ e xs ss → MixR K F H F' H' σ e xs ss
  | _, _, .nil => .nil
  | _, _, .v r m => .v r (m.back dm)
  | _, _, .o h1 h2 h3 h4 h5 m => .o h1 (dm _ h2) h3 h4 h5 (m.back dm)
def mNil : ME (List Sl) := rt []
def mV (f : ME D) (g : ME (List Sl)) : ME (List Sl) := bd f fun d => bd g fun ds => rt (.v d :: ds)
def mO (f : ME (List D)) (g : ME (List Sl)) : ME (List Sl) := bd f fun d => bd g fun ds => rt (.o (.list d) :: ds)
theorem m_nil : DM X n [] mNil := ⟨tNil, pa_nil, fun io F σ H e d e' hn R h Q q => by cases h; exact q _ F H R .refl .nil⟩
theorem m_v {gm : ME (List Sl)} (ha : DE X n a fa) (hr : DM X n es gm) (hs : starEach (a :: es) X.env = (false, eval a X.env) :: starEach es X.env := by rfl) : DM X n (a :: es) (mV fa gm) := by
  obtain ⟨ta, pa, ra⟩ := ha
  obtain ⟨tb, pb, rb⟩ := hr
  refine ⟨_, pa_cons pa pb hs, fun io F σ H e d e' hn R h Q q => ?_⟩
  obtain ⟨d1, e1, h1, h⟩ := bd_some h
  obtain ⟨d2, e2, h2, h⟩ := bd_some h
  cases h
  refine ra io F σ H e d1 e1 hn R h1 _ fun x F1 H1 R1 S1 r1 => ?_
  refine rb io F1 σ H1 e1 d2 e' hn R1 h2 _ fun ys F2 H2 R2 S2 r2 => ?_
  exact q _ F2 H2 R2 (S1.trans S2) (.v (Rp.mono S2.ex _ _ r1) (r2.back S1.dm))
theorem m_o {gm : ME (List Sl)} (ha : DN X n a fs) (hr : DM X n es gm) (hs : starEach (a :: es) X.env = (false, eval a X.env) :: starEach es X.env := by rfl) : DM X n (a :: es) (mO fs gm) := by
  obtain ⟨ta, pa, ra⟩ := ha
  obtain ⟨tb, pb, rb⟩ := hr
  refine ⟨_, pa_cons pa pb hs, fun io F σ H e d e' hn R h Q q => ?_⟩
  obtain ⟨d1, e1, h1, h⟩ := bd_some h
  obtain ⟨d2, e2, h2, h⟩ := bd_some h
  cases h
  refine ra io F σ H e d1 e1 hn R h1 _ fun p F1 H1 xs R1 S1 p1 p2 p3 p4 r1 => ?_
  refine rb io F1 σ H1 e1 d2 e' hn R1 h2 _ fun ys F2 H2 R2 S2 r2 => ?_
  obtain ⟨w1, w2, w3⟩ := S2.kept p1 p4 p3
  refine q _ F2 H2 R2 (S1.trans S2) (.o w1 p2 w3 ⟨xs, w2, RpAll.mono S2.ex _ _ r1⟩ (fun i dd z y => ?_) (r2.back S1.dm))
  have := r2.at i dd p z y
  rw [p4] at this; cases this
/-- the slots, one after another -/
def setAll : List Nat → List Sl → En → En
  | i :: is, s :: ss, e => setAll is ss (e.set i s)
  | _, _, e => e
def setAllV : List Nat → List V → L2.St → L2.St
  | i :: is, v :: vs, σ => setAllV is vs (σ.set i (some v))
  | _, _, σ => σ
theorem MixR.len {K : PySem.W.Frag} {F H F' H' : Hp} {σ : L2.St} {e : En} : ∀ {ss : List Sl} {xs : List V}, MixR K F H F' H' σ e xs ss → xs.length = ss.length
  | _, _, .nil => rfl
  | _, _, .v r m => by simp [m.len]
  | _, _, .o h1 h2 h3 h4 h5 m => by simp [m.len]
/-- one slot is set: what is left to be put stays apart -/
theorem MixR.next {K : PySem.W.Frag} {F H F' H' : Hp} {σ : L2.St} {e : En} {i : Nat} {v : V} {s : Sl} (hl : σ.length = e.length) (no : ∀ (j : Nat) (p : Addr) (d : D), True → True) : ∀ {ss : List Sl} {xs : List V}, MixR K F H F' H' σ e xs ss →
    (∀ d, s = .o d → ∀ (j : Nat) (dd : D), ss[j]? = some (.o dd) → xs[j]? ≠ some v) → MixR K F H F' H' (σ.set i (some v)) (e.set i s) xs ss
  | _, _, .nil, _ => .nil
  | _, _, .v r m, h => .v r (m.next hl no fun d hd j dd z => h d hd (j + 1) dd (by simpa using z) |> fun y w => y (by simpa using w))
  | _, _, .o (p := p) h1 h2 h3 h4 h5 m, h => .o h1 h2 (fun z => by
      rcases Own.put hl z with y | ⟨y1, d, y2⟩
      · exact h3 y
      · exact h d y2 0 _ rfl (by rw [y1] <;> rfl)) h4 h5 (m.next hl no fun d hd j dd z => h d hd (j + 1) dd (by simpa using z) |> fun y w => y (by simpa using w))
theorem putAll {K : PySem.W.Frag} {io : List Addr} {F0 H0 F H : Hp} {σ0 : L2.St} {e0 : En} : ∀ {is : List Nat} {ss : List Sl} {xs : List V} {σ : L2.St} {e : En}, (∀ i ∈ is, io.length ≤ i) → Rn K io F σ H e → Step σ0 e0 F0 H0 σ e F H → MixR K F0 H0 F H σ e xs ss →
    Rn K io F (setAllV is xs σ) H (setAll is ss e) ∧ Step σ0 e0 F0 H0 (setAllV is xs σ) (setAll is ss e) F H
  | [], _, _, _, _, _, R, S, _ => by simpa [setAll, setAllV] using ⟨R, S⟩
  | i :: is, _, _, σ, e, hi, R, S, .nil => by simpa [setAll, setAllV] using ⟨R, S⟩
  | i :: is, _, _, σ, e, hi, R, S, .v (x := x) (d := d) r m => by
    have R1 := R.put (i := i) (v := x) (s := .v d) (hi i (by simp)) ⟨x, rfl, r⟩ fun _ _ z => by cases z
    have S1 := S.put (i := i) (v := x) (s := .v d) R.len fun _ _ z => by cases z
    have hm := m.next (i := i) (v := x) (s := .v d) R.len (fun _ _ _ _ => trivial) fun dd z => by cases z
    have h := putAll (is := is) (σ := σ.set i (some x)) (e := e.set i (.v d)) (fun j hj => hi j (by simp [hj])) R1 S1 hm
    exact h
  | i :: is, _, _, σ, e, hi, R, S, .o (p := p) (d := d) h1 h2 h3 h4 h5 m => by
    have R1 := R.put (i := i) (v := .ref p) (s := .o d) (hi i (by simp)) ⟨p, rfl, h1, h4⟩ fun dd a z y => by cases y; exact h3
    have S1 := S.put (i := i) (v := .ref p) (s := .o d) R.len fun dd a z y => by cases y; exact .inr h2
    have hm := m.next (i := i) (v := .ref p) (s := .o d) R.len (fun _ _ _ _ => trivial) fun dd z j d2 w => h5 j d2 w
    have h := putAll (is := is) (σ := σ.set i (some (.ref p))) (e := e.set i (.o d)) (fun j hj => hi j (by simp [hj])) R1 S1 hm
    exact h
def parS (is : List Nat) (f : ME (List Sl)) : ME Fl := fun e => match f e with
  | some (ss, e1) => if ss.length = is.length then some (.nx, setAll is ss e1) else none
  | none => none
theorem s_par2 (i j : Nat) {y : Str} {px py pt : Pos} {kt k2 pt2} {fm : ME (List Sl)} (hi : n ≤ i) (hj : n ≤ j) (hc : X.calm = true) (hN : X.N.Nodup) (hx : X.N[i]? = some x) (hy : X.N[j]? = some y) (hij : i ≠ j)
    (hlx : X.env.scope.names.lookup x = some .local) (hly : X.env.scope.names.lookup y = some .local) (ha : DM X n [a, b] fm)
    (hw : swappedStores [.Tuple [.Name x px, .Name y py] kt pt] (.Tuple [a, b] k2 pt2) X.env = pure (some [x, y]) := by rfl)
    (hs : swapsWithSole [.Tuple [.Name x px, .Name y py] kt pt] (.Tuple [a, b] k2 pt2) pos.line X.env = pure false := by rfl) :
    DS X n (.Assign [.Tuple [.Name x px, .Name y py] kt pt] (.Tuple [a, b] k2 pt2) pos) (parS [i, j] fm) := by
  obtain ⟨t, pt', r⟩ := ha
  refine ⟨_, ps_par hc hN hx hy hij hlx hly pt' hw hs, fun io F σ H e fl e' hn R h D E => ?_⟩
  unfold parS at h
  split at h
  · rename_i ss e1 h1
    split at h
    · rename_i hl
      cases h
      refine r io F σ H e ss e1 hn R h1 _ fun xs F1 H1 R1 S1 m => ?_
      have hlen := m.len
      obtain ⟨v, w, rfl⟩ : ∃ v w, xs = [v, w] := by
        match xs, hlen with
        | [v, w], _ => exact ⟨v, w, rfl⟩
        | [], hh => simp [hl] at hh
        | [_], hh => simp [hl] at hh
        | _ :: _ :: _ :: _, hh => simp [hl] at hh
      obtain ⟨R2, S2⟩ := putAll (is := [i, j]) (fun k hk => by simp at hk; omega) R1 S1 m
      exact ⟨v, w, rfl, E _ F1 H1 R2 S2⟩
    · cases h
  · cases h
theorem s_par3 (i j l : Nat) {y z : Str} {px py pz pt : Pos} {kt k2 pt2} {fm : ME (List Sl)} (hi : n ≤ i) (hj : n ≤ j) (hl' : n ≤ l) (hc : X.calm = true) (hN : X.N.Nodup) (hx : X.N[i]? = some x) (hy : X.N[j]? = some y) (hz : X.N[l]? = some z) (hij : i ≠ j) (hil : i ≠ l) (hjl : j ≠ l)
    (hlx : X.env.scope.names.lookup x = some .local) (hly : X.env.scope.names.lookup y = some .local) (hlz : X.env.scope.names.lookup z = some .local) (ha : DM X n [a, b, c] fm)
    (hw : swappedStores [.Tuple [.Name x px, .Name y py, .Name z pz] kt pt] (.Tuple [a, b, c] k2 pt2) X.env = pure (some [x, y, z]) := by rfl)
    (hs : swapsWithSole [.Tuple [.Name x px, .Name y py, .Name z pz] kt pt] (.Tuple [a, b, c] k2 pt2) pos.line X.env = pure false := by rfl) :
    DS X n (.Assign [.Tuple [.Name x px, .Name y py, .Name z pz] kt pt] (.Tuple [a, b, c] k2 pt2) pos) (parS [i, j, l] fm) := by
  obtain ⟨t, pt', r⟩ := ha
  refine ⟨_, ps_par3 hc hN hx hy hz hij hil hjl hlx hly hlz pt' hw hs, fun io F σ H e fl e' hn R h D E => ?_⟩
  unfold parS at h
  split at h
  · rename_i ss e1 h1
    split at h
    · rename_i hl
      cases h
      refine r io F σ H e ss e1 hn R h1 _ fun xs F1 H1 R1 S1 m => ?_
      have hlen := m.len
      obtain ⟨v, w, u, rfl⟩ : ∃ v w u, xs = [v, w, u] := by
        match xs, hlen with
        | [v, w, u], _ => exact ⟨v, w, u, rfl⟩
        | [], hh => simp [hl] at hh
        | [_], hh => simp [hl] at hh
        | [_, _], hh => simp [hl] at hh
        | _ :: _ :: _ :: _ :: _, hh => simp [hl] at hh
      obtain ⟨R2, S2⟩ := putAll (is := [i, j, l]) (fun k hk => by simp at hk; omega) R1 S1 m
      exact ⟨v, w, u, rfl, E _ F1 H1 R2 S2⟩
    · cases h
  · cases h
/-- any number of names, by a tuple that is laid -/
structure DNs (X : Cx) (n : Nat) (a : List Expr) (is : List Nat) : Prop where
  ex : ∃ t, PGs X a t ∧ (∀ xs σ H Q, xs.length = is.length → Q (setAllV is xs σ) H → t xs σ H Q) ∧ ∀ i ∈ is, n ≤ i
theorem ns_nil : DNs X n [] [] := ⟨_, pgs_nil, fun xs σ H Q h q => by
  cases xs with
  | nil => exact ⟨rfl, q⟩
  | cons => simp at h, fun _ h => by simp at h⟩
theorem ns_cons (i : Nat) {is : List Nat} (hi : n ≤ i) (hN : X.N.Nodup) (hx : X.N[i]? = some x) (hl : Loc X.env.scope x) (h2 : DNs X n es is) (hs : (assignEach (.Name x pos :: es) X.env).map (·.2) = assign (.Name x pos) X.env :: (assignEach es X.env).map (·.2) := by rfl)
    (hf : X.fn x = true ∨ X.env.scope.names.lookup x = some .local := by first | exact .inl rfl | exact .inr rfl | assumption) : DNs X n (.Name x pos :: es) (i :: is) := by
  obtain ⟨t, p, r, m⟩ := h2
  refine ⟨_, pgs_cons (pg_name hN hx hl hf) p hs, fun xs σ H Q h q => ?_, fun k hk => ?_⟩
  · cases xs with
    | nil => simp at h
    | cons v vs => exact ⟨v, vs, rfl, r vs _ H Q (by simpa using h) q⟩
  · rcases List.mem_cons.mp hk with rfl | hk
    · exact hi
    · exact m k hk
theorem s_parG {is : List Nat} {k m k2 : Nat} {pt pt2 : Pos} {es2 : List Expr} {fm : ME (List Sl)} (hc : X.calm = true) (ht : DNs X n es is) (ha : DM X n es2 fm) (hk : (assignEach es X.env).length = k := by rfl) (hst : (assignEach es X.env).findIdx? (·.1) = none := by rfl)
    (hki : is.length = k := by rfl) (hkl : is.length ≤ 1000 := by decide)
    (hs : swapsWithSole [.Tuple es m pt] (.Tuple es2 k2 pt2) pos.line X.env = pure false := by rfl) (hw : swappedStores [.Tuple es m pt] (.Tuple es2 k2 pt2) X.env = pure none := by rfl)
    (h1 : (assignEach [.Tuple es m pt] X.env).map (·.2) = [assign (.Tuple es m pt) X.env] := by rfl) : DS X n (.Assign [.Tuple es m pt] (.Tuple es2 k2 pt2) pos) (parS is fm) := by
  obtain ⟨t, pt', r⟩ := ha
  obtain ⟨tg, pg, rg, mg⟩ := ht
  refine ⟨_, ps_asg (pe_tup pt') (pg_tup hc pg hk hst) hs hw h1, fun io F σ H e fl e' hn R h D E => ?_⟩
  unfold parS at h
  split at h
  · rename_i ss e1 h1
    split at h
    · rename_i hl
      cases h
      refine r io F σ H e ss e1 hn R h1 _ fun xs F1 H1 R1 S1 mm => ?_
      have hlen : xs.length = is.length := mm.len.trans hl
      refine ⟨by rw [hlen]; exact big_le (by omega), fun q hq => ?_⟩
      refine ⟨q, xs, rfl, .inl (.inl upd_same), by rw [hlen, hki], rg xs σ _ _ hlen ?_⟩
      obtain ⟨R2, S2⟩ := R1.new (New.made (p := q) (o := .tup xs) R1.ex hq)
      have mm2 : MixR X.K F H F1 (upd H1 q (.tup xs)) σ e1 xs ss := by
        have : ∀ {ss : List Sl} {ys : List V}, MixR X.K F H F1 H1 σ e1 ys ss → MixR X.K F H F1 (upd H1 q (.tup xs)) σ e1 ys ss := by
          intro ss ys m0
          induction m0 with
          | nil => exact .nil
          | v r _ ih => exact .v r ih
          | o z1 z2 z3 z4 z5 _ ih =>
            obtain ⟨u, hu⟩ := z4.there
            exact .o z1 z2 z3 (z4.mono (Same.refl _) (upd_ne (ne_of_none hu hq))) z5 ih
        exact this mm
      obtain ⟨R3, S3⟩ := putAll (is := is) (fun k hk => by have := mg k hk; omega) R2 (S1.trans S2) mm2
      exact E _ F1 _ R3 S3
    · cases h
  · cases h
end
end DL

namespace DL
open PySem PySem.Spec PyProof.Rows L2

/-! ### what is walked -/
def ItOk (K : PySem.W.Frag) (F : Hp) (J : It) (ds : List D) : Prop := ∀ F' H', Same F F' → Same F' H' →
  (∀ i, ds.length ≤ i → J.stop i H') ∧ ∀ (i : Nat) (d : D), ds[i]? = some d → J.go i H' ∧ ∀ x H'', J.yld i H' x H'' → ∃ F'', New F' H' F'' H'' ∧ Rp K F'' x d
def DIr (K : PySem.W.Frag) (n : Nat) (t : TI) (f : ME (List D)) : Prop :=
  ∀ io F σ H e ds e', io.length = n → Rn K io F σ H e → f e = some (ds, e') → ∀ R : It → Hp → Prop, (∀ J F' H', Rn K io F' σ H' e' → Step σ e F H σ e' F' H' → ItOk K F' J ds → R J H') → t σ H R
structure DI (X : Cx) (n : Nat) (tg a : Expr) (f : ME (List D)) : Prop where
  ex : ∃ t, PI X tg a t ∧ DIr X.K n t f
def seqD : D → Option (List D)
  | .list ds => some ds
  | .tuple ds => some ds
  | .str z => some (z.cps.toList.map fun c => .str ⟨#[c]⟩)
  | _ => none
def seqI (f : ME D) : ME (List D) := bd f fun d => lf (seqD d)
def iSeqA (K : PySem.W.Frag) (te : TE) : TI := fun σ H R => te σ H fun x H1 => ((∃ a, x = .ref a ∧ (∃ xs, SqL K H1 a xs) ∧ R (Itl K a) H1) ∨ (∃ a, x = .ref a ∧ (∃ xs, SqT K H1 a xs) ∧ R (Itt K a) H1)) ∨ ∃ z, x = .str z ∧ R (Its z) H1
section
variable {X : Cx} {n : Nat} {a b c tg : Expr} {es : List Expr} {pos p : Pos} {fa fb : ME D} {fs : ME (List D)} {x : Str} {st : Stmt} {sts sts2 : List Stmt} {g g2 : ME Fl} {K : PySem.W.Frag}
theorem pi_seqA {te : TE} (he : PE X a te) : PI X tg a (iSeqA X.K te) where
  run pins s σ H R I h := by
    refine thn (he.run pins s σ H _ I h) fun v s1 post => ?_
    obtain ⟨y, H1, I1, rel, q⟩ := post
    rcases q with (⟨a0, rfl, ⟨xs, hq⟩, q⟩ | ⟨a0, rfl, ⟨xs, hq⟩, q⟩) | ⟨z, rfl, q⟩
    · cases rel
      obtain ⟨its, rv, pl, hz⟩ := I1.list hq
      refine wpAny_pyIter_list pl.isList ⟨s1.heap.objs.size, [s1.heap.objs.size], _, _, H1, rfl, I1.kept (t' := s1.toks) fun b o w => Heap.get?_push_of_some _ w, turn_list a0 _, ⟨_, Heap.get?_push_size _ rfl, rfl, rfl⟩, fun b hb => ?_, q⟩
      obtain rfl : b = s1.heap.objs.size := by simpa using hb
      exact I1.fpOk (Nat.le_refl _) (I1.hok.fresh (Nat.le_refl _))
    · cases rel
      obtain ⟨its, rv, pl, hz⟩ := I1.tuple hq
      refine wpAny_pyIter_tuple (show s1.heap.IsTuple a0 its.toArray from pl) ⟨s1.heap.objs.size, [s1.heap.objs.size], _, _, H1, rfl, I1.kept (t' := s1.toks) fun b o w => Heap.get?_push_of_some _ w, turn_tuple a0 _, ⟨_, Heap.get?_push_size _ rfl, rfl, rfl⟩, fun b hb => ?_, q⟩
      obtain rfl : b = s1.heap.objs.size := by simpa using hb
      exact I1.fpOk (Nat.le_refl _) (I1.hok.fresh (Nat.le_refl _))
    · obtain ⟨t, rfl⟩ := rel
      cases asc : z.cps.all (· < 128) with
      | false => exact wpAny_pyIter_wide asc (pi_one (tk := s1.toks) I1 _ (turn_str _ z t "str_iterator" (.inr rfl)) ⟨_, Heap.get?_push_size _ rfl, rfl, rfl⟩ q)
      | true => exact wpAny_pyIter_ascii asc (pi_one (tk := s1.toks) I1 _ (turn_str _ z t "str_ascii_iterator" (.inl rfl)) ⟨_, Heap.get?_push_size _ rfl, rfl, rfl⟩ q)
theorem it_list {F : Hp} {p1 : Addr} {xs : List V} {ds : List D} (h : F p1 = some (.lst xs)) (r : RpAll K F xs ds) : ItOk K F (Itl K p1) ds := fun F' H' ff fh =>
  have hq : SqL K H' p1 xs := .inl (.inl (fh _ _ (ff _ _ h)))
  ⟨fun i hi => ⟨xs, hq, by rw [r.len]; exact hi⟩, fun i d hd => by
    obtain ⟨v, g1, g2⟩ := r.get hd
    refine ⟨⟨xs, v, hq, g1⟩, fun x H'' y => ?_⟩
    obtain ⟨rfl, y⟩ := y
    have := y xs hq
    rw [g1] at this; cases this
    exact ⟨F', New.refl fh, Rp.mono ff _ _ g2⟩⟩
theorem it_tup {F : Hp} {p1 : Addr} {xs : List V} {ds : List D} (h : SqT K F p1 xs) (r : RpAll K F xs ds) : ItOk K F (Itt K p1) ds := fun F' H' ff fh =>
  have hq : SqT K H' p1 xs := Same.sqt fh (Same.sqt ff h)
  ⟨fun i hi => ⟨xs, hq, by rw [r.len]; exact hi⟩, fun i d hd => by
    obtain ⟨v, g1, g2⟩ := r.get hd
    refine ⟨⟨xs, v, hq, g1⟩, fun x H'' y => ?_⟩
    obtain ⟨rfl, y⟩ := y
    have := y xs hq
    rw [g1] at this; cases this
    exact ⟨F', New.refl fh, Rp.mono ff _ _ g2⟩⟩
theorem it_str {F : Hp} (z : Str) : ItOk K F (Its z) (z.cps.toList.map fun c => .str ⟨#[c]⟩) := fun F' H' ff fh =>
  ⟨fun i hi => by
    show z.cps.size ≤ i
    rw [List.length_map, Array.length_toList] at hi
    exact hi, fun i d hd => by
    rw [List.getElem?_map] at hd
    cases w : z.cps.toList[i]? with
    | none => rw [w] at hd; cases hd
    | some cc =>
      rw [w] at hd; cases hd
      have hlt : i < z.cps.size := by
        have := (List.getElem?_eq_some_iff.mp w).1
        rwa [Array.length_toList] at this
      refine ⟨hlt, fun x H'' y => ?_⟩
      obtain ⟨rfl, c2, y1, rfl⟩ := y
      rw [Array.getElem?_toList] at w
      rw [w] at y1; cases y1
      exact ⟨F', New.refl fh, .str _⟩⟩
theorem i_seq (ha : DE X n a fa) : DI X n tg a (seqI fa) := by
  obtain ⟨t, pt, r⟩ := ha
  refine ⟨_, pi_seqA pt, fun io F σ H e ds e' hn R h Q q => ?_⟩
  obtain ⟨d1, e1, h1, h⟩ := bd_some h
  obtain ⟨h2, rfl⟩ := lf_some h
  refine r io F σ H e d1 e' hn R h1 _ fun xv F1 H1 R1 S1 r1 => ?_
  unfold seqD at h2
  split at h2
  · cases h2
    obtain ⟨p1, xs, rfl, s1, q1⟩ := rp_list r1
    exact .inl (.inl ⟨p1, rfl, ⟨xs, sql_of R1.ex s1⟩, q _ F1 H1 R1 S1 (it_list s1 q1)⟩)
  · cases h2
    obtain ⟨p1, xs, rfl, s1, q1⟩ := rp_tup r1
    exact .inl (.inr ⟨p1, rfl, ⟨xs, Same.sqt R1.ex s1⟩, q _ F1 H1 R1 S1 (it_tup s1 q1)⟩)
  · cases h2
    rw [rp_str r1]
    exact .inr ⟨_, rfl, q _ F1 H1 R1 S1 (it_str _)⟩
  · cases h2
/-! ranges -/
def upTo (lo : Int) (k : Nat) : List D := (List.range k).map fun (i : Nat) => PyData.int (lo + (i : Int))
def rng1D : List D → Option (List D)
  | [.int j] => if -1000000000000 ≤ j ∧ j ≤ 1000000000000 then some (upTo 0 j.toNat) else none
  | _ => none
def rng2D : List D → Option (List D)
  | [.int i, .int j] => if -1000000000000 ≤ i ∧ i ≤ 1000000000000 ∧ -1000000000000 ≤ j ∧ j ≤ 1000000000000 then some (upTo i (j - i).toNat) else none
  | _ => none
def upBy (lo c : Int) (k : Nat) : List D := (List.range k).map fun (i : Nat) => PyData.int (lo + (i : Int) * c)
def rng3D : List D → Option (List D)
  | [.int i, .int j, .int c] => if c ≠ 0 ∧ c.natAbs < 1073741824 ∧ Builtin.Range.small i j c = true ∧ Builtin.Range.rangeSize i j c = ((Builtin.Range.rangeSize i j c).toNat : Int) then some (upBy i c (Builtin.Range.rangeSize i j c).toNat) else none
  | _ => none
theorem it_rng {F : Hp} (lo : Int) (k : Nat) : ItOk K F (Itr lo k) (upTo lo k) := fun F' H' ff fh =>
  ⟨fun i hi => by
    show k ≤ i
    unfold upTo at hi
    rwa [List.length_map, List.length_range] at hi, fun i d hd => by
    unfold upTo at hd
    rw [List.getElem?_map] at hd
    cases w : (List.range k)[i]? with
    | none => rw [w] at hd; cases hd
    | some j =>
      rw [w] at hd; cases hd
      obtain ⟨hlt, hj⟩ := List.getElem?_eq_some_iff.mp w
      rw [List.getElem_range] at hj
      subst hj
      rw [List.length_range] at hlt
      refine ⟨hlt, fun x H'' y => ?_⟩
      obtain ⟨rfl, rfl⟩ := y
      exact ⟨F', New.refl fh, .int _⟩⟩
theorem it_rngC {F : Hp} (lo c : Int) (k : Nat) : ItOk K F (Itc lo c k) (upBy lo c k) := fun F' H' ff fh =>
  ⟨fun i hi => by
    show k ≤ i
    unfold upBy at hi
    rwa [List.length_map, List.length_range] at hi, fun i d hd => by
    unfold upBy at hd
    rw [List.getElem?_map] at hd
    cases w : (List.range k)[i]? with
    | none => rw [w] at hd; cases hd
    | some j =>
      rw [w] at hd; cases hd
      obtain ⟨hlt, hj⟩ := List.getElem?_eq_some_iff.mp w
      rw [List.getElem_range] at hj
      subst hj
      rw [List.length_range] at hlt
      refine ⟨hlt, fun x H'' y => ?_⟩
      obtain ⟨rfl, rfl⟩ := y
      exact ⟨F', New.refl fh, .int _⟩⟩
def rngI (g : List D → Option (List D)) (f : ME (List D)) : ME (List D) := bd f fun ds => lf (g ds)
theorem i_rng1 (hm : X.mg "range" = none) (ha : DA X n [a] fs) (hg : Gl X "range" := by rfl) (hs : starEach [a] X.env = [(false, eval a X.env)] := by rfl) : DI X n tg (.Call (.Name "range" p) [a] [] pos) (rngI rng1D fs) := by
  obtain ⟨t, pt, r⟩ := ha
  refine ⟨_, pi_range1 hg hm pt hs, fun io F σ H e ds e' hn R h Q q => ?_⟩
  obtain ⟨d1, e1, h1, h⟩ := bd_some h
  obtain ⟨h2, rfl⟩ := lf_some h
  refine r io F σ H e d1 e' hn R h1 _ fun xs F1 H1 R1 S1 r1 => ?_
  unfold rng1D at h2
  split at h2
  · split at h2
    · cases h2
      obtain ⟨x, rfl, w⟩ := rp1 r1
      rw [rp_int w]
      exact ⟨_, rfl, by omega, by omega, q _ F1 H1 R1 S1 (it_rng 0 _)⟩
    · cases h2
  · cases h2
theorem i_rng2 (hm : X.mg "range" = none) (ha : DA X n [a, b] fs) (hg : Gl X "range" := by rfl) (hs : starEach [a, b] X.env = [(false, eval a X.env), (false, eval b X.env)] := by rfl) (hs2 : starEach [b] X.env = [(false, eval b X.env)] := by rfl) : DI X n tg (.Call (.Name "range" p) [a, b] [] pos) (rngI rng2D fs) := by
  obtain ⟨t, pt, r⟩ := ha
  refine ⟨_, pi_range2 hg hm pt hs hs2, fun io F σ H e ds e' hn R h Q q => ?_⟩
  obtain ⟨d1, e1, h1, h⟩ := bd_some h
  obtain ⟨h2, rfl⟩ := lf_some h
  refine r io F σ H e d1 e' hn R h1 _ fun xs F1 H1 R1 S1 r1 => ?_
  unfold rng2D at h2
  split at h2
  · split at h2
    · cases h2
      obtain ⟨x, y, rfl, w1, w2⟩ := rp2 r1
      rw [rp_int w1, rp_int w2]
      exact ⟨_, _, rfl, ⟨by omega, by omega, by omega, by omega⟩, q _ F1 H1 R1 S1 (it_rng _ _)⟩
    · cases h2
  · cases h2
theorem i_rng3 (hm : X.mg "range" = none) (ha : DA X n [a, b, c] fs) (hg : Gl X "range" := by rfl) (hs : starEach [a, b, c] X.env = (false, eval a X.env) :: starEach [b, c] X.env := by rfl) (hs2 : (backTo pos (starEach [b, c] X.env)).any (·.1) = false := by rfl) :
    DI X n tg (.Call (.Name "range" p) [a, b, c] [] pos) (rngI rng3D fs) := by
  obtain ⟨t, pt, r⟩ := ha
  refine ⟨_, pi_range3 hg hm pt hs hs2, fun io F σ H e ds e' hn R h Q q => ?_⟩
  obtain ⟨d1, e1, h1, h⟩ := bd_some h
  obtain ⟨h2, rfl⟩ := lf_some h
  refine r io F σ H e d1 e' hn R h1 _ fun xs F1 H1 R1 S1 r1 => ?_
  unfold rng3D at h2
  split at h2
  · split at h2
    · rename_i i j k hz
      cases h2
      cases r1 with
      | cons w1 r2 =>
        obtain ⟨x, y, rfl, w2, w3⟩ := rp2 r2
        rw [rp_int w1, rp_int w2, rp_int w3]
        exact ⟨_, _, _, _, rfl, ⟨hz.1, hz.2.1, hz.2.2.1, hz.2.2.2⟩, q _ F1 H1 R1 S1 (it_rngC _ _ _)⟩
    · cases h2
  · cases h2

/-! ### for -/
def foF (g : D → En → Option En) (f : ME Fl) : List D → ME Fl
  | [] => rt .nx
  | d :: ds => fun e => match g d e with
    | none => none
    | some e1 => match f e1 with
      | some (.nx, e2) => foF g f ds e2
      | some (.ct, e2) => foF g f ds e2
      | some (.bk, e2) => some (.nx, e2)
      | some (.rt d, e2) => some (.rt d, e2)
      | some (.rn d, e2) => some (.rn d, e2)
      | none => none
def foS (fi : ME (List D)) (g : D → En → Option En) (f : ME Fl) : ME Fl := fun e => match fi e with
  | some (ds, e1) => foF g f ds e1
  | none => none
theorem s_for {ts : List Nat} {gt : D → En → Option En} (hp : PassesOwn (model X.prog X.w) X.A X.env X.xe) (hc : X.calm = true) (hi : DI X n tg a fs) (hg : DG X n ts tg gt) (hb : DB X n sts g) (hs : ∀ x, foldedSetIterable a X.env x = pure x := by intro _; rfl) :
    DS X n (.For tg a sts [] pos) (foS fs gt g) := by
  obtain ⟨t0, p0, r0⟩ := hi
  obtain ⟨t1, p1, r1⟩ := hg
  obtain ⟨t2, p2, r2⟩ := hb
  refine ⟨_, ps_for hp hc p0 p1 p2 hs, fun io F σ H e fl e' hn R h D E => ?_⟩
  unfold foS at h
  split at h
  · rename_i ds e1 h1
    refine r0 io F σ H e ds e1 hn R h1 _ fun J F1 H1 R1 S1 J1 => ?_
    refine ⟨fun i m σ2 H2 => m = ds.length - i ∧ i ≤ ds.length ∧ ∃ F2 e2, Same F1 F2 ∧ Rn X.K io F2 σ2 H2 e2 ∧ foF gt g (ds.drop i) e2 = some (fl, e') ∧ EndR X.K io D σ2 e2 F2 H2 e' fl,
      ⟨ds.length, by omega, by omega, F1, e1, Same.refl _, R1, by rw [List.drop_zero]; exact h, E.step S1⟩, fun i m σ2 H2 hw => ?_⟩
    obtain ⟨rfl, hi, F2, e2, ff, R2, h2, E2⟩ := hw
    by_cases hlt : i < ds.length
    · obtain ⟨_, go⟩ := J1 F2 H2 ff R2.ex
      obtain ⟨g1, g2⟩ := go i ds[i] (List.getElem?_eq_getElem hlt)
      rw [List.drop_eq_getElem_cons hlt] at h2
      refine .inr ⟨g1, fun σ3 H3 => i + 1 ≤ ds.length ∧ ∃ F3 e3, Same F1 F3 ∧ Rn X.K io F3 σ3 H3 e3 ∧ foF gt g (ds.drop (i + 1)) e3 = some (fl, e') ∧ EndR X.K io D σ3 e3 F3 H3 e' fl, fun σ3 H3 hN => ⟨ds.length - (i + 1), by omega, rfl, hN⟩, fun x H3 hy => ?_⟩
      obtain ⟨F3, N3, r3⟩ := g2 x H3 hy
      obtain ⟨R3, S3⟩ := R2.new N3
      unfold foF at h2
      split at h2
      · cases h2
      · rename_i e3 h3
        refine r1 io F3 σ2 H3 e2 e3 x _ hn R3 r3 h3 _ fun σ4 F4 H4 R4 S4 _ => ?_
        have E4 := (E2.step S3).step S4
        have ff4 : Same F1 F4 := (ff.trans N3.ff).trans S4.ex
        split at h2
        · rename_i e5 h5
          exact r2 io F4 σ4 H4 e3 .nx e5 hn R4 h5 _ fun σ5 F5 H5 R5 S5 => ⟨hlt, F5, e5, ff4.trans S5.ex, R5, h2, E4.step S5⟩
        · rename_i e5 h5
          exact r2 io F4 σ4 H4 e3 .ct e5 hn R4 h5 _ fun σ5 F5 H5 R5 S5 => ⟨hlt, F5, e5, ff4.trans S5.ex, R5, h2, E4.step S5⟩
        · rename_i e5 h5
          cases h2
          exact r2 io F4 σ4 H4 e3 .bk _ hn R4 h5 _ fun σ5 F5 H5 R5 S5 => E4 σ5 F5 H5 R5 S5
        · rename_i d e5 h5
          cases h2
          exact r2 io F4 σ4 H4 e3 (.rt d) _ hn R4 h5 _ fun x σ5 F5 H5 R5 S5 r5 => E4 x σ5 F5 H5 R5 S5 r5
        · rename_i d e5 h5
          cases h2
          exact r2 io F4 σ4 H4 e3 (.rn d) _ hn R4 h5 _ fun x σ5 F5 H5 R5 S5 q1 q2 q3 r5 => E4 x σ5 F5 H5 R5 S5 q1 q2 q3 r5
        · cases h2
    · have e0 : i = ds.length := by omega
      subst e0
      obtain ⟨stop, _⟩ := J1 F2 H2 ff R2.ex
      rw [List.drop_length] at h2
      cases h2
      exact .inl ⟨stop _ (Nat.le_refl _), E2 σ2 F2 H2 R2 .refl⟩
  · cases h

/-! ### comprehensions -/
/-- the slots of the block's own names, emptied -/
def wipeE (e : En) : List Nat → En
  | [] => e
  | i :: is => wipeE (e.set i .u) is
def okWipe (e : En) (is : List Nat) : Bool := is.all fun i => match e[i]? with
  | some (.o _) => false
  | _ => true
/-- behind the block: the own names as they were -/
def backE (e0 : En) : List Nat → En → En
  | [], e => e
  | i :: is, e => backE e0 is (match e0[i]? with | some s => e.set i s | none => e)
def lcF (g : D → En → Option En) (ft : ME Bool) (f : ME D) (is : List Nat) : List D → List D → ME (List D)
  | acc, [] => fun e => some (acc, e)
  | acc, d :: ds => fun e => match g d (wipeE e is) with
    | none => none
    | some e1 => match ft e1 with
      | none => none
      | some (false, e2) => lcF g ft f is acc ds (wipeE e2 is)
      | some (true, e2) => match f e2 with
        | none => none
        | some (y, e3) => if acc.length < 100000 then lcF g ft f is (acc ++ [y]) ds (wipeE e3 is) else none
def lcS (fi : ME (List D)) (g : D → En → Option En) (ft : ME Bool) (f : ME D) (is : List Nat) : ME (List D) := fun e => match fi e with
  | some (ds, e1) => if okWipe e1 is = true then match lcF g ft f is [] ds (wipeE e1 is) with
      | some (ys, e2) => some (ys, backE e1 is e2)
      | none => none
    else none
  | none => none
theorem wipeE_len : ∀ (is : List Nat) (e : En), (wipeE e is).length = e.length
  | [], e => rfl
  | i :: is, e => by
    show (wipeE (e.set i .u) is).length = _
    rw [wipeE_len is, List.length_set]
theorem wipeE_at : ∀ {is : List Nat} {e : En} {j : Nat} {s : Sl}, (wipeE e is)[j]? = some s → (j ∈ is ∧ s = .u) ∨ (j ∉ is ∧ e[j]? = some s)
  | [], e, j, s, h => .inr ⟨by simp, h⟩
  | i :: is, e, j, s, h => by
    rcases wipeE_at (is := is) (e := e.set i .u) h with ⟨h1, h2⟩ | ⟨h1, h2⟩
    · exact .inl ⟨by simp [h1], h2⟩
    · rcases set_at h2 with ⟨rfl, rfl, _⟩ | ⟨hj, h2⟩
      · exact .inl ⟨by simp, rfl⟩
      · exact .inr ⟨by simp [hj, h1], h2⟩
theorem wipe_keep {σ : L2.St} {is : List Nat} {j : Nat} (h : j ∉ is) : (wipe σ is)[j]? = σ[j]? := wipe_out h
theorem Rn.wiped {io : List Addr} {F H : Hp} {σ : L2.St} {e : En} (R : Rn K io F σ H e) (is : List Nat) (hi : ∀ i ∈ is, io.length ≤ i) : Rn K io F (wipe σ is) H (wipeE e is) where
  ex := R.ex
  len := by rw [wipe_length, wipeE_len]; exact R.len
  sl := fun j s h => by
    rcases wipeE_at h with ⟨_, rfl⟩ | ⟨h1, h2⟩
    · have hj : j < (wipe σ is).length := by
        have := (List.getElem?_eq_some_iff.mp h).1
        rw [wipeE_len] at this
        rw [wipe_length, R.len]
        exact this
      exact ⟨_, List.getElem?_eq_getElem hj, trivial⟩
    · rw [wipe_keep h1]
      exact R.sl j s h2
  ap := fun i j a d d' h1 h2 h3 h4 => by
    rcases wipeE_at h1 with ⟨_, z⟩ | ⟨k1, k2⟩
    · cases z
    rcases wipeE_at h2 with ⟨_, z⟩ | ⟨l1, l2⟩
    · cases z
    rw [wipe_keep k1] at h3
    rw [wipe_keep l1] at h4
    exact R.ap i j a d d' k2 l2 h3 h4
  io := fun i a h => by
    have : i < io.length := (List.getElem?_eq_some_iff.mp h).1
    rw [wipe_keep fun z => by have := hi i z; omega]
    exact R.io i a h
theorem Own.wiped {σ : L2.St} {e : En} {is : List Nat} {b : Addr} (h : Own (wipe σ is) (wipeE e is) b) : Own σ e b := by
  obtain ⟨j, d, h1, h2⟩ := h
  rcases wipeE_at h1 with ⟨_, z⟩ | ⟨k1, k2⟩
  · cases z
  rw [wipe_keep k1] at h2
  exact ⟨j, d, k2, h2⟩
theorem Own.unwiped {σ : L2.St} {e : En} {is : List Nat} {b : Addr} (ok : okWipe e is = true) (h : Own σ e b) : Own (wipe σ is) (wipeE e is) b := by
  obtain ⟨j, d, h1, h2⟩ := h
  have hj : j ∉ is := fun z => by
    unfold okWipe at ok
    have := List.all_eq_true.mp ok j z
    rw [h1] at this
    cases this
  refine ⟨j, d, ?_, by rw [wipe_keep hj]; exact h2⟩
  have hlt : j < (wipeE e is).length := by rw [wipeE_len]; exact (List.getElem?_eq_some_iff.mp h1).1
  cases w : (wipeE e is)[j]? with
  | none => exact absurd (List.getElem?_eq_none_iff.mp w) (by omega)
  | some s =>
    rcases wipeE_at w with ⟨z, _⟩ | ⟨_, z⟩
    · exact absurd z hj
    · rw [h1] at z; cases z; rfl
theorem backE_len (e0 : En) : ∀ (is : List Nat) (e : En), (backE e0 is e).length = e.length
  | [], e => rfl
  | i :: is, e => by
    show (backE e0 is _).length = _
    rw [backE_len e0 is]
    split
    · rw [List.length_set]
    · rfl
theorem backE_at {e0 : En} : ∀ {is : List Nat} {e : En} {j : Nat} {s : Sl}, e0.length = e.length → (backE e0 is e)[j]? = some s → (j ∈ is ∧ e0[j]? = some s) ∨ (j ∉ is ∧ e[j]? = some s)
  | [], e, j, s, _, h => .inr ⟨by simp, h⟩
  | i :: is, e, j, s, hl, h => by
    have h : (backE e0 is (match e0[i]? with | some s => e.set i s | none => e))[j]? = some s := h
    cases w : e0[i]? with
    | none =>
      rw [w] at h
      rcases backE_at (is := is) hl h with ⟨h1, h2⟩ | ⟨h1, h2⟩
      · exact .inl ⟨by simp [h1], h2⟩
      · refine .inr ⟨?_, h2⟩
        have : j ≠ i := fun z => by
          subst z
          have a1 := List.getElem?_eq_none_iff.mp w
          have a2 := (List.getElem?_eq_some_iff.mp h2).1
          omega
        simp [this, h1]
    | some t =>
      rw [w] at h
      rcases backE_at (is := is) (e := e.set i t) (by rw [List.length_set]; exact hl) h with ⟨h1, h2⟩ | ⟨h1, h2⟩
      · exact .inl ⟨by simp [h1], h2⟩
      · rcases set_at h2 with ⟨rfl, rfl, _⟩ | ⟨hj, h2⟩
        · exact .inl ⟨by simp, w⟩
        · exact .inr ⟨by simp [hj, h1], h2⟩
/-- the outer state behind the block -/
theorem Rn.backed {io : List Addr} {F H F' H' : Hp} {σ : L2.St} {e e2 : En} {is : List Nat} (R : Rn K io F σ H e) (ok : okWipe e is = true) (R2 : Rn K io F' (wipe σ is) H' e2) (S : Step (wipe σ is) (wipeE e is) F H (wipe σ is) e2 F' H') :
    Rn K io F' σ H' (backE e is e2) ∧ Step σ e F H σ (backE e is e2) F' H' ∧ ∀ b, Own σ (backE e is e2) b → Own (wipe σ is) e2 b := by
  have hl : e.length = e2.length := by rw [← R.len, ← R2.len, wipe_length]
  have hown : ∀ b, Own σ (backE e is e2) b → Own (wipe σ is) e2 b := fun b ⟨j, d, h1, h2⟩ => by
    rcases backE_at hl h1 with ⟨k1, k2⟩ | ⟨k1, k2⟩
    · unfold okWipe at ok
      have := List.all_eq_true.mp ok j k1
      rw [k2] at this
      cases this
    · exact ⟨j, d, k2, by rw [wipe_keep k1]; exact h2⟩
  refine ⟨⟨R2.ex, by rw [backE_len, ← hl]; exact R.len, fun j s h => ?_, fun i j a d d' h1 h2 h3 h4 => ?_, R.io⟩, ⟨S.ex, fun b o h n => S.fr b o h fun z => n z.wiped, fun b o h => (S.nw b o h).imp id (Or.imp id Own.wiped), fun b h => (S.ow b (hown b h)).imp Own.wiped id, S.dm⟩, hown⟩
  · rcases backE_at hl h with ⟨k1, k2⟩ | ⟨k1, k2⟩
    · obtain ⟨x, q, r⟩ := R.sl j s k2
      refine ⟨x, q, r.mono S.ex fun d a e1 e2 => ?_⟩
      subst e1
      unfold okWipe at ok
      have := List.all_eq_true.mp ok j k1
      rw [k2] at this
      cases this
    · have := R2.sl j s k2
      rwa [wipe_keep k1] at this
  · rcases backE_at hl h1 with ⟨k1, k2⟩ | ⟨k1, k2⟩
    · unfold okWipe at ok
      have := List.all_eq_true.mp ok i k1
      rw [k2] at this
      cases this
    rcases backE_at hl h2 with ⟨l1, l2⟩ | ⟨l1, l2⟩
    · unfold okWipe at ok
      have := List.all_eq_true.mp ok j l1
      rw [l2] at this
      cases this
    exact R2.ap i j a d d' k2 l2 (by rw [wipe_keep k1]; exact h3) (by rw [wipe_keep l1]; exact h4)
theorem Rn.wipedE {io : List Addr} {F H : Hp} {σ : L2.St} {e : En} (R : Rn K io F σ H e) (is : List Nat) : Rn K io F σ H (wipeE e is) where
  ex := R.ex
  len := by rw [wipeE_len]; exact R.len
  sl := fun j s h => by
    rcases wipeE_at h with ⟨_, rfl⟩ | ⟨h1, h2⟩
    · have hj : j < σ.length := by
        have := (List.getElem?_eq_some_iff.mp h).1
        rw [wipeE_len] at this
        rw [R.len]
        exact this
      exact ⟨_, List.getElem?_eq_getElem hj, trivial⟩
    · exact R.sl j s h2
  ap := fun i j a d d' h1 h2 h3 h4 => by
    rcases wipeE_at h1 with ⟨_, z⟩ | ⟨k1, k2⟩
    · cases z
    rcases wipeE_at h2 with ⟨_, z⟩ | ⟨l1, l2⟩
    · cases z
    exact R.ap i j a d d' k2 l2 h3 h4
  io := R.io
theorem Own.wipedE {σ : L2.St} {e : En} {is : List Nat} {b : Addr} (h : Own σ (wipeE e is) b) : Own σ e b := by
  obtain ⟨j, d, h1, h2⟩ := h
  rcases wipeE_at h1 with ⟨_, z⟩ | ⟨k1, k2⟩
  · cases z
  exact ⟨j, d, k2, h2⟩
theorem wipe_in {σ : L2.St} : ∀ {is : List Nat} {j : Nat}, j ∈ is → (wipe σ is)[j]? = if j < σ.length then some none else none
  | i :: is, j, h => by
    unfold wipe
    by_cases hj : i = j
    · subst hj
      by_cases hl : i < σ.length
      · rw [List.getElem?_set_self (by rw [wipe_length]; exact hl), if_pos hl]
      · rw [List.getElem?_eq_none (by rw [List.length_set, wipe_length]; omega), if_neg hl]
    · rw [List.getElem?_set_ne hj]
      rcases List.mem_cons.mp h with rfl | h
      · exact absurd rfl hj
      · exact wipe_in h
theorem wipe_eq {σ σ' : L2.St} {is ts : List Nat} (h : OnlyAt ts (wipe σ is) σ') (hs : ∀ t ∈ ts, t ∈ is) : wipe σ' is = wipe σ is := by
  have hl : σ'.length = σ.length := by rw [h.1, wipe_length]
  refine List.ext_getElem? fun j => ?_
  by_cases hj : j ∈ is
  · rw [wipe_in hj, wipe_in hj, hl]
  · rw [wipe_out hj, h.2 j fun z => hj (hs j z)]
/-- the readings of the block, told by data alone -/
def canE (K : PySem.W.Frag) (n : Nat) (f : ME D) : TE := fun σ H Q => ∃ io F e d e', io.length = n ∧ Rn K io F σ H e ∧ f e = some (d, e') ∧ ∀ x F' H', Rn K io F' σ H' e' → Step σ e F H σ e' F' H' → Rp K F' x d → Q x H'
def canT (K : PySem.W.Frag) (n : Nat) (f : ME Bool) : TT := fun σ H Q => ∃ io F e d e', io.length = n ∧ Rn K io F σ H e ∧ f e = some (d, e') ∧ ∀ F' H', Rn K io F' σ H' e' → Step σ e F H σ e' F' H' → Q d H'
def canG (K : PySem.W.Frag) (n : Nat) (ts : List Nat) (g : D → En → Option En) : TG := fun x σ H Q => ∃ io F e e' d, io.length = n ∧ Rn K io F σ H e ∧ Rp K F x d ∧ g d e = some e' ∧ ∀ σ' F' H', Rn K io F' σ' H' e' → Step σ e F H σ' e' F' H' → OnlyAt ts σ σ' → Q σ' H'
theorem DE.can (h : DE X n a fa) : PE X a (canE X.K n fa) := by
  obtain ⟨t, p, r⟩ := h
  exact ⟨fun pins s σ H Q I ⟨io, F, e, d, e', h1, h2, h3, h4⟩ => p.run pins s σ H Q I (r io F σ H e d e' h1 h2 h3 Q h4)⟩
structure DTs (X : Cx) (n : Nat) (a : List Expr) (f : ME Bool) : Prop where
  ex : ∃ t, PTs X a t ∧ DTr X.K n t f
theorem ts_nil : DTs X n [] (rt true) := ⟨_, pts_nil, fun io F σ H e d e' hn R h Q q => by cases h; exact q F H R .refl⟩
theorem ts_one {ga : ME Bool} (h : DT X n a ga) : DTs X n [a] ga := by
  obtain ⟨t, p, r⟩ := h
  exact ⟨t, pts_one p, r⟩
theorem DTs.can {ga : ME Bool} (h : DTs X n es ga) : PTs X es (canT X.K n ga) := by
  obtain ⟨t, p, r⟩ := h
  exact ⟨fun pins s σ H Q I ⟨io, F, e, d, e', h1, h2, h3, h4⟩ => p.run pins s σ H Q I (r io F σ H e d e' h1 h2 h3 Q h4)⟩
theorem DG.can {ts : List Nat} {gt : D → En → Option En} (h : DG X n ts a gt) : PG X a (canG X.K n ts gt) := by
  obtain ⟨t, p, r⟩ := h
  exact ⟨fun pins s σ H v u Q I rr ⟨io, F, e, e', d, h1, h2, h3, h4, h5⟩ => p.run pins s σ H v u Q I rr (r io F σ H e e' v d h1 h2 h3 h4 Q h5)⟩
theorem lc_r {ts is : List Nat} {wi : TI} {gt : D → En → Option En} {ft : ME Bool} {fi : ME (List D)} (r0 : DIr K n wi fi) (hts : ∀ t ∈ ts, t ∈ is) (his : ∀ i ∈ is, n ≤ i) : DNr K n (tLc wi (canG K n ts gt) (canT K n ft) (canE K n fa) is) (lcS fi gt ft fa is) := by
  intro io F σ H e ys e' hn R h Q q
  unfold lcS at h
  split at h
  · rename_i ds e1 h1
    split at h
    · rename_i ok
      split at h
      · rename_i zs eF hF
        cases h
        refine r0 io F σ H e ds e1 hn R h1 _ fun J F1 H1 R1 S1 J1 => fun D0 hD0 => ?_
        have hF1 : F1 D0 = none := R1.ex.free hD0
        have hiw : ∀ i ∈ is, io.length ≤ i := fun i hi => by rw [hn]; exact his i hi
        have Rw := R1.wiped is hiw
        have ow0 : ∀ b, Own (wipe σ is) (wipeE e1 is) b → b ≠ D0 := fun b hb z => by
          obtain ⟨_, o, w⟩ := Rw.owned hb
          rw [z, hD0] at w; cases w
        refine ⟨fun i m H2 => m = ds.length - i ∧ i ≤ ds.length ∧ ∃ F2 ei acc av, Same F1 F2 ∧ Rn K io F2 (wipe σ is) H2 ei ∧ Step (wipe σ is) (wipeE e1 is) F1 H1 (wipe σ is) ei F2 H2 ∧ F2 D0 = none ∧ H2 D0 = some (.lst av) ∧ RpAll K F2 av acc ∧ ¬ Own (wipe σ is) ei D0 ∧
            lcF gt ft fa is acc (ds.drop i) ei = some (ys, eF), ⟨ds.length, by omega, by omega, F1, wipeE e1 is, [], [], Same.refl _, ?_, ?_, hF1, upd_same, .nil, fun z => ow0 D0 z rfl, by rw [List.drop_zero]; exact hF⟩, fun i m H2 hw => ?_⟩
        · exact (Rw.new (New.made Rw.ex hD0)).1
        · exact (Rw.new (New.made Rw.ex hD0)).2
        obtain ⟨rfl, hi, F2, ei, acc, av, ff, R2, S2, fD, hD, rA, nO, h2⟩ := hw
        by_cases hlt : i < ds.length
        · obtain ⟨_, go⟩ := J1 F2 H2 ff R2.ex
          obtain ⟨g1, g2⟩ := go i ds[i] (List.getElem?_eq_getElem hlt)
          rw [List.drop_eq_getElem_cons hlt] at h2
          refine .inr ⟨g1, fun H9 => i + 1 ≤ ds.length ∧ ∃ F2 ei acc av, Same F1 F2 ∧ Rn K io F2 (wipe σ is) H9 ei ∧ Step (wipe σ is) (wipeE e1 is) F1 H1 (wipe σ is) ei F2 H9 ∧ F2 D0 = none ∧ H9 D0 = some (.lst av) ∧ RpAll K F2 av acc ∧ ¬ Own (wipe σ is) ei D0 ∧
            lcF gt ft fa is acc (ds.drop (i + 1)) ei = some (ys, eF), fun H9 hN => ⟨ds.length - (i + 1), by omega, rfl, hN⟩, fun x H3 hy => ?_⟩
          obtain ⟨F3, N3, r3⟩ := g2 x H3 hy
          obtain ⟨R3, S3⟩ := R2.new N3
          obtain ⟨fD3, hD3, nO3⟩ := S3.kept fD hD nO
          unfold lcF at h2
          split at h2
          · cases h2
          · rename_i ea ha
            refine ⟨io, F3, wipeE ei is, ea, ds[i], hn, R3.wipedE is, r3, ha, fun σ4 F4 H4 R4 S4 O4 => ⟨wipe_eq O4 hts, ?_⟩⟩
            have nO3' : ¬ Own (wipe σ is) (wipeE ei is) D0 := fun z => nO3 z.wipedE
            obtain ⟨fD4, hD4, nO4⟩ := S4.kept fD3 hD3 nO3'
            split at h2
            · cases h2
            · rename_i eb hb
              refine ⟨io, F4, ea, false, eb, hn, R4, hb, fun F5 H5 R5 S5 => ?_⟩
              obtain ⟨fD5, hD5, nO5⟩ := S5.kept fD4 hD4 nO4
              simp only [Bool.false_eq_true, if_false]
              have we := wipe_eq O4 hts
              have Rz := R5.wiped is hiw
              rw [we] at Rz
              have Sz : Step (wipe σ is) (wipeE ei is) F3 H3 (wipe σ is) (wipeE eb is) F5 H5 := by
                have := S4.trans S5
                refine ⟨this.ex, this.fr, this.nw, fun b hb => this.ow b ?_, this.dm⟩
                rw [← we] at hb
                exact hb.wiped
              have Sy : Step (wipe σ is) ei F3 H3 (wipe σ is) (wipeE eb is) F5 H5 := ⟨Sz.ex, fun b o h n => Sz.fr b o h fun z => n z.wipedE, fun b o h => (Sz.nw b o h).imp id (Or.imp id Own.wipedE), fun b h => (Sz.ow b h).imp Own.wipedE id, Sz.dm⟩
              refine ⟨hlt, F5, wipeE eb is, acc, av, ((ff.trans N3.ff).trans S4.ex).trans S5.ex, Rz, (S2.trans S3).trans Sy, fD5, hD5, RpAll.mono ((N3.ff.trans S4.ex).trans S5.ex) _ _ rA, fun z => ?_, h2⟩
              rw [← we] at z
              exact nO5 z.wiped
            · rename_i eb hb
              refine ⟨io, F4, ea, true, eb, hn, R4, hb, fun F5 H5 R5 S5 => ?_⟩
              obtain ⟨fD5, hD5, nO5⟩ := S5.kept fD4 hD4 nO4
              simp only [if_true]
              split at h2
              · cases h2
              · rename_i y ec hc
                split at h2
                · rename_i hz
                  refine ⟨io, F5, eb, y, ec, hn, R5, hc, fun yv F6 H6 R6 S6 r6 => ?_⟩
                  obtain ⟨fD6, hD6, nO6⟩ := S6.kept fD5 hD5 nO5
                  refine ⟨av, hD6, by rw [rA.len]; exact Nat.lt_of_lt_of_le hz (by decide), ?_⟩
                  have we := wipe_eq O4 hts
                  have R7 : Rn K io F6 σ4 (upd H6 D0 (.lst (av ++ [yv]))) ec := R6.up (Same.refl _) (fun b o z => by
                      have : b ≠ D0 := fun w => by rw [w, fD6] at z; cases z
                      rw [upd_ne this]; exact R6.ex b o z) fun a ha => ⟨(R6.owned ha).1, upd_ne fun w => nO6 (w ▸ ha)⟩
                  have Rz := R7.wiped is hiw
                  rw [we] at Rz
                  have S7 := (S4.trans S5).trans S6
                  have Sy : Step (wipe σ is) ei F3 H3 (wipe σ is) (wipeE ec is) F6 H6 := ⟨S7.ex, fun b o h n => S7.fr b o h fun z => n z.wipedE, fun b o h => (S7.nw b o h).imp id (Or.imp id Own.wipedE), fun b h => by
                    rw [← we] at h
                    exact (S7.ow b h.wiped).imp Own.wipedE id, S7.dm⟩
                  have SA := (S2.trans S3).trans Sy
                  have SB : Step (wipe σ is) (wipeE e1 is) F1 H1 (wipe σ is) (wipeE ec is) F6 (upd H6 D0 (.lst (av ++ [yv]))) := ⟨SA.ex, fun b o h n => by
                    have : b ≠ D0 := fun w => by rw [w, hD0] at h; cases h
                    rw [upd_ne this]; exact SA.fr b o h n, SA.nw, SA.ow, fun b h => by
                    by_cases hb : b = D0
                    · rw [hb]; exact hD0
                    · rw [upd_ne hb] at h; exact SA.dm b h⟩
                  refine ⟨hlt, F6, wipeE ec is, acc ++ [y], av ++ [yv], (((ff.trans N3.ff).trans S4.ex).trans S5.ex).trans S6.ex, Rz, SB, fD6, upd_same, (RpAll.mono (((N3.ff.trans S4.ex).trans S5.ex).trans S6.ex) _ _ rA).append (.cons r6 .nil), fun z => ?_, h2⟩
                  rw [← we] at z
                  exact nO6 z.wiped
                · cases h2
        · have e0 : i = ds.length := by omega
          subst e0
          obtain ⟨stop, _⟩ := J1 F2 H2 ff R2.ex
          rw [List.drop_length] at h2
          cases h2
          obtain ⟨R9, S9, O9⟩ := R1.backed ok R2 S2
          exact .inl ⟨stop _ (Nat.le_refl _), q D0 F2 H2 av R9 (S1.trans S9) fD (S1.dm D0 hD0) (fun z => nO (O9 D0 z)) hD rA⟩
      · cases h
    · cases h
  · cases h
theorem n_lc {ts : List Nat} {elt iter : Expr} {ifs : List Expr} {scope : Scope} {own : List (Str × Nat)} {gt : D → En → Option En} {ft : ME Bool} {fi : ME (List D)} (hc : X.calm = true) (hN : X.N.Nodup) (hi : DI X n tg iter fi) (ok : BlkOk X.N X.env.scope scope own)
    (hg : ∀ (s : Shared) (H : Hp) (C : Addr) (cl : List (Str × Addr)) (fp : List Addr), DG (X.blk s H scope (compEnvC scope cl C X.env) fp) n ts tg gt) (ht : ∀ (s : Shared) (H : Hp) (C : Addr) (cl : List (Str × Addr)) (fp : List Addr), DTs (X.blk s H scope (compEnvC scope cl C X.env) fp) n ifs ft)
    (he : ∀ (s : Shared) (H : Hp) (C : Addr) (cl : List (Str × Addr)) (fp : List Addr), DE (X.blk s H scope (compEnvC scope cl C X.env) fp) n elt fa) (hts : ∀ t ∈ ts, t ∈ own.map (·.2)) (his : ∀ i ∈ own.map (·.2), n ≤ i)
    (hs : ∀ x, foldedSetIterable iter X.env x = pure x := by intro _; rfl) : DN X n (.ListComp elt [⟨tg, iter, ifs, 0⟩] scope pos) (lcS fi gt ft fa (own.map (·.2))) := by
  obtain ⟨t, p, r⟩ := hi
  exact ⟨_, pe_lc hc hN p ok (fun s H C cl fp => (hg s H C cl fp).can) (fun s H C cl fp => (ht s H C cl fp).can) (fun s H C cl fp => (he s H C cl fp).can) hs, lc_r r hts his⟩
theorem fr_r {t : TE} {f : ME (List D)} (r : DNr K n t f) : DEr K n t (fr f) := by
  intro io F σ H e d e' hn R h Q q
  obtain ⟨ds, e1, h1, h⟩ := bd_some h
  cases h
  refine r io F σ H e ds e' hn R h1 Q fun p F1 H1 xs R1 S1 p1 p2 p3 p4 r1 => ?_
  have hs : Same F1 (upd F1 p (.lst xs)) := Same.new p1
  have hfh : Same (upd F1 p (.lst xs)) H1 := fun b o z => by
    by_cases hb : b = p
    · subst hb; rw [upd_same] at z; rw [p4]; exact z
    · rw [upd_ne hb] at z; exact R1.ex b o z
  refine q _ (upd F1 p (.lst xs)) H1 (R1.up hs hfh fun a ha => ⟨?_, rfl⟩) ⟨S1.ex.trans hs, S1.fr, fun b o z => ?_, S1.ow, S1.dm⟩ (.lst upd_same (RpAll.mono hs _ _ r1))
  · have hne : a ≠ p := fun z => p3 (z ▸ ha)
    rw [upd_ne hne]
    exact (R1.owned ha).1
  · by_cases hb : b = p
    · subst hb; exact .inr (.inl p2)
    · rw [upd_ne hb] at z; exact S1.nw b o z
/-- y = [..] -/
theorem s_lcV {ts : List Nat} {elt iter : Expr} {ifs : List Expr} {scope : Scope} {own : List (Str × Nat)} {gt : D → En → Option En} {ft : ME Bool} {fi : ME (List D)} {y : Str} {py spos : Pos} (i : Nat) (hi' : n ≤ i) (hc : X.calm = true) (hN : X.N.Nodup) (hy : X.N[i]? = some y)
    (hyl : X.env.scope.names.lookup y = some .local) (hsw : swapsWith (.ListComp elt [⟨tg, iter, ifs, 0⟩] scope pos) (some (.Name y py)) spos.line X.env = pure true) (hi : DI X n tg iter fi) (ok : BlkOk X.N X.env.scope scope own)
    (hg : ∀ (s : Shared) (H : Hp) (C : Addr) (cl : List (Str × Addr)) (fp : List Addr), DG (X.blk s H scope (compEnvC scope cl C X.env) fp) n ts tg gt) (ht : ∀ (s : Shared) (H : Hp) (C : Addr) (cl : List (Str × Addr)) (fp : List Addr), DTs (X.blk s H scope (compEnvC scope cl C X.env) fp) n ifs ft)
    (he : ∀ (s : Shared) (H : Hp) (C : Addr) (cl : List (Str × Addr)) (fp : List Addr), DE (X.blk s H scope (compEnvC scope cl C X.env) fp) n elt fa) (hts : ∀ t ∈ ts, t ∈ own.map (·.2)) (his : ∀ i ∈ own.map (·.2), n ≤ i)
    (hs : ∀ x, foldedSetIterable iter X.env x = pure x := by intro _; rfl) : DS X n (.Assign [.Name y py] (.ListComp elt [⟨tg, iter, ifs, 0⟩] scope pos) spos) (asgS i (fr (lcS fi gt ft fa (own.map (·.2))))) := by
  obtain ⟨t, p, r⟩ := hi
  exact ⟨_, ps_setLc hc hN hy hyl hsw p ok (fun s H C cl fp => (hg s H C cl fp).can) (fun s H C cl fp => (ht s H C cl fp).can) (fun s H C cl fp => (he s H C cl fp).can) hs, asg_r hi' (fr_r (lc_r r hts his))⟩
theorem s_lcO {ts : List Nat} {elt iter : Expr} {ifs : List Expr} {scope : Scope} {own : List (Str × Nat)} {gt : D → En → Option En} {ft : ME Bool} {fi : ME (List D)} {y : Str} {py spos : Pos} (i : Nat) (hi' : n ≤ i) (hc : X.calm = true) (hN : X.N.Nodup) (hy : X.N[i]? = some y)
    (hyl : X.env.scope.names.lookup y = some .local) (hsw : swapsWith (.ListComp elt [⟨tg, iter, ifs, 0⟩] scope pos) (some (.Name y py)) spos.line X.env = pure true) (hi : DI X n tg iter fi) (ok : BlkOk X.N X.env.scope scope own)
    (hg : ∀ (s : Shared) (H : Hp) (C : Addr) (cl : List (Str × Addr)) (fp : List Addr), DG (X.blk s H scope (compEnvC scope cl C X.env) fp) n ts tg gt) (ht : ∀ (s : Shared) (H : Hp) (C : Addr) (cl : List (Str × Addr)) (fp : List Addr), DTs (X.blk s H scope (compEnvC scope cl C X.env) fp) n ifs ft)
    (he : ∀ (s : Shared) (H : Hp) (C : Addr) (cl : List (Str × Addr)) (fp : List Addr), DE (X.blk s H scope (compEnvC scope cl C X.env) fp) n elt fa) (hts : ∀ t ∈ ts, t ∈ own.map (·.2)) (his : ∀ i ∈ own.map (·.2), n ≤ i)
    (hs : ∀ x, foldedSetIterable iter X.env x = pure x := by intro _; rfl) : DS X n (.Assign [.Name y py] (.ListComp elt [⟨tg, iter, ifs, 0⟩] scope pos) spos) (asgO i (lcS fi gt ft fa (own.map (·.2)))) := by
  obtain ⟨t, p, r⟩ := hi
  exact ⟨_, ps_setLc hc hN hy hyl hsw p ok (fun s H C cl fp => (hg s H C cl fp).can) (fun s H C cl fp => (ht s H C cl fp).can) (fun s H C cl fp => (he s H C cl fp).can) hs, asgO_r hi' (lc_r r hts his)⟩
end
end DL

namespace DL
open PySem PySem.Spec PyProof.Rows L2

/-! ### whole defs -/
def envP (m : Nat) (ds : List D) : En := ds.map .v ++ List.replicate (m - ds.length) .u
def runP (m : Nat) (fb : ME Fl) : List D → Option D := fun ds => match fb (envP m ds) with
  | some (.rt d, _) => some d
  | some (.nx, _) => some .none
  | some (.rn (.list d), _) => some (.list d)
  | _ => none
def runN (m : Nat) (fb : ME Fl) : List D → Option (List D) := fun ds => match fb (envP m ds) with
  | some (.rn (.list d), _) => some d
  | _ => none
def runI (m : Nat) (fb : ME Fl) : D → List D → Option (D × D) := fun d0 ds => match fb (.o d0 :: envP (m - 1) ds) with
  | some (fl, e') => match List.head? e' with
    | some (Sl.o d1) => match fl with
      | .rt d => some (d, d1)
      | .nx => some (.none, d1)
      | _ => none
    | _ => none
  | none => none
section
variable {P : Program} {w : World} {K : PySem.W.Frag} {mg : Str → Option Value} {base : Heap}
theorem envP_at {m : Nat} {ds : List D} {i : Nat} {s : Sl} (h : (envP m ds)[i]? = some s) : s = .u ∨ ∃ d, s = .v d ∧ ds[i]? = some d := by
  unfold envP at h
  by_cases hi : i < ds.length
  · rw [List.getElem?_append_left (by simpa using hi), List.getElem?_map] at h
    cases z : ds[i]? with
    | none => rw [z] at h; cases h
    | some d => rw [z] at h; cases h; exact .inr ⟨d, rfl, rfl⟩
  · rw [List.getElem?_append_right (by simpa using hi), List.getElem?_replicate] at h
    split at h
    · cases h; exact .inl rfl
    · cases h
theorem start_at {N : List Str} {vs : List V} {i : Nat} {v : V} (h : vs[i]? = some v) : (L2.start N vs)[i]? = some (some v) := by
  unfold L2.start
  have hi := (List.getElem?_eq_some_iff.mp h).1
  rw [List.getElem?_append_left (by simpa using hi), List.getElem?_map, h] <;> rfl
theorem rn_start {N : List Str} {F H : Hp} {vs : List V} {ds : List D} (e : Same F H) (r : RpAll K F vs ds) (hl : ds.length ≤ N.length) : Rn K [] F (L2.start N vs) H (envP N.length ds) where
  ex := e
  len := by
    unfold L2.start envP
    rw [List.length_append, List.length_append, List.length_map, List.length_map, List.length_replicate, List.length_replicate, r.len]
  sl := fun i s h => by
    have hlt : i < (L2.start N vs).length := by
      have := (List.getElem?_eq_some_iff.mp h).1
      unfold envP at this
      unfold L2.start
      rw [List.length_append, List.length_map, List.length_replicate] at this ⊢
      rw [r.len]
      omega
    rcases envP_at h with rfl | ⟨d, rfl, h2⟩
    · exact ⟨_, List.getElem?_eq_getElem hlt, trivial⟩
    · obtain ⟨v, g1, g2⟩ := r.get h2
      exact ⟨_, start_at g1, v, rfl, g2⟩
  ap := fun i j a d d' h1 _ _ _ => by
    rcases envP_at h1 with z | ⟨d, z, _⟩ <;> cases z
  io := fun i a h => by simp at h
theorem no_own {N : List Str} {m : Nat} {vs : List V} {ds : List D} {b : Addr} : ¬ Own (L2.start N vs) (envP m ds) b := fun ⟨i, d, h, _⟩ => by
  rcases envP_at h with z | ⟨d, z, _⟩ <;> cases z
theorem new_of {σ σ' : L2.St} {e e' : En} {F H F' H' : Hp} (S : Step σ e F H σ' e' F' H') (fh : Same F' H') (no : ∀ b, ¬ Own σ e b) : New F H F' H' :=
  ⟨S.ex, fh, fun b o h => S.fr b o h (no b), fun b o h => by
    rcases S.nw b o h with z | z | z
    · exact .inl z
    · exact .inr z
    · exact absurd z (no b)⟩
theorem fn_p {x qual : Str} {st : Stmt} {f : Addr} {fd : FuncData} {N ps : List Str} {k : Nat} (F : Fun K x qual st f fd) (S : FnScope N ps (defScope st)) (fb : ME Fl) (hps : ps.length ≤ N.length)
    (hb : ∀ (cdv : Value) (A : Around) (outer : List Env) (s : Shared) (H : Hp) (E : XK), Room k (A.deeper (envOfC qual (defScope st) s.heap.objs.size f cdv)) → (A.deeper (envOfC qual (defScope st) s.heap.objs.size f cdv)).guards = some [] →
      DB (cxOf CX0 P w K mg base N qual (defScope st) f cdv A outer s H E).nox 0 (defBody st) fb) : FnG P w K mg base (k + 1) f fd ps (spP K ps.length (runP N.length fb)) := by
  refine okG F S (fun vs H Q E h => ?_) fun cdv A outer s H vs Q E room gd want => ?_
  · obtain ⟨F0, ds, d, h1, h2, h3, _⟩ := h
    rw [h2.len, h3]
  · obtain ⟨t, p, r⟩ := hb cdv A outer s H E room gd
    obtain ⟨F0, ds, d, h1, h2, h3, h4, q⟩ := want
    refine ⟨t, p, ?_⟩
    have R := rn_start (N := N) h1 h2 (by omega)
    unfold runP at h4
    split at h4
    · rename_i dd e' hf
      cases h4
      exact r [] F0 (L2.start N vs) H _ _ e' rfl R hf _ fun xv σ' F' H' R' S' rr => q xv F' H' (new_of S' R'.ex fun b => no_own) rr
    · rename_i e' hf
      cases h4
      exact r [] F0 (L2.start N vs) H _ _ e' rfl R hf _ fun σ' F' H' R' S' => q .non F' H' (new_of S' R'.ex fun b => no_own) .non
    · rename_i dd e' hf
      cases h4
      refine r [] F0 (L2.start N vs) H _ _ e' rfl R hf _ fun pa σ' F' H' R' S' q1 q2 q3 o => ?_
      obtain ⟨xs, o1, o2⟩ := o
      have n2 := new_of S' R'.ex fun b => no_own
      have hp : H pa = none := q2.resolve_left no_own
      exact q _ _ H' (n2.froze q1 hp o1) (.lst upd_same (RpAll.mono (Same.new q1) _ _ o2))
    · cases h4
theorem fn_n {x qual : Str} {st : Stmt} {f : Addr} {fd : FuncData} {N ps : List Str} {k : Nat} (F : Fun K x qual st f fd) (S : FnScope N ps (defScope st)) (fb : ME Fl) (hps : ps.length ≤ N.length)
    (hb : ∀ (cdv : Value) (A : Around) (outer : List Env) (s : Shared) (H : Hp) (E : XK), Room k (A.deeper (envOfC qual (defScope st) s.heap.objs.size f cdv)) → (A.deeper (envOfC qual (defScope st) s.heap.objs.size f cdv)).guards = some [] →
      DB (cxOf CX0 P w K mg base N qual (defScope st) f cdv A outer s H E).nox 0 (defBody st) fb) : FnG P w K mg base (k + 1) f fd ps (spN K ps.length (runN N.length fb)) := by
  refine okG F S (fun vs H Q E h => ?_) fun cdv A outer s H vs Q E room gd want => ?_
  · obtain ⟨F0, ds, d, h1, h2, h3, _⟩ := h
    rw [h2.len, h3]
  · obtain ⟨t, p, r⟩ := hb cdv A outer s H E room gd
    obtain ⟨F0, ds, d, h1, h2, h3, h4, q⟩ := want
    refine ⟨t, p, ?_⟩
    have R := rn_start (N := N) h1 h2 (by omega)
    unfold runN at h4
    split at h4
    · rename_i dd e' hf
      cases h4
      refine r [] F0 (L2.start N vs) H _ _ e' rfl R hf _ fun pa σ' F' H' R' S' q1 q2 q3 o => ?_
      obtain ⟨xs, o1, o2⟩ := o
      exact q _ F' H' xs (new_of S' R'.ex fun b => no_own) q1 (q2.resolve_left no_own) o1 o2
    · cases h4
theorem fn_i {x qual : Str} {st : Stmt} {f : Addr} {fd : FuncData} {N ps : List Str} {k : Nat} (F : Fun K x qual st f fd) (S : FnScope N ps (defScope st)) (fb : ME Fl) (hps : ps.length ≤ N.length) (h0 : 1 ≤ ps.length)
    (hb : ∀ (cdv : Value) (A : Around) (outer : List Env) (s : Shared) (H : Hp) (E : XK), Room k (A.deeper (envOfC qual (defScope st) s.heap.objs.size f cdv)) → (A.deeper (envOfC qual (defScope st) s.heap.objs.size f cdv)).guards = some [] →
      DB (cxOf CX0 P w K mg base N qual (defScope st) f cdv A outer s H E).nox 1 (defBody st) fb) : FnG P w K mg base (k + 1) f fd ps (spI K (ps.length - 1) (runI N.length fb)) := by
  refine okG F S (fun vs H Q E h => ?_) fun cdv A outer s H vs Q E room gd want => ?_
  · obtain ⟨F0, a, vs', d0, ds, d, d1, rfl, h1, h2, h3, h4, h5, _⟩ := h
    rw [List.length_cons, h4.len, h5]
    omega
  · obtain ⟨t, p, r⟩ := hb cdv A outer s H E room gd
    obtain ⟨F0, a, vs', d0, ds, d, d1, rfl, h1, h2, h3, h4, h5, h6, q⟩ := want
    refine ⟨t, p, ?_⟩
    have sta : L2.start N (V.ref a :: vs') = some (V.ref a) :: (vs'.map some ++ List.replicate (N.length - 1 - vs'.length) none) := by
      unfold L2.start
      rw [List.map_cons, List.cons_append, List.length_cons, show N.length - (vs'.length + 1) = N.length - 1 - vs'.length by omega]
    have at0 : ∀ {i : Nat} {s : Sl}, (Sl.o d0 :: envP (N.length - 1) ds)[i]? = some s → (i = 0 ∧ s = .o d0) ∨ (∃ j, i = j + 1 ∧ (s = .u ∨ ∃ d, s = .v d ∧ ds[j]? = some d)) := fun {i s} h => by
      cases i with
      | zero => simp at h; exact .inl ⟨rfl, h.symm⟩
      | succ j => exact .inr ⟨j, rfl, envP_at (by simpa using h)⟩
    have own1 : ∀ b, Own (L2.start N (V.ref a :: vs')) (Sl.o d0 :: envP (N.length - 1) ds) b → b = a := fun b ⟨i, dd, z1, z2⟩ => by
      rcases at0 z1 with ⟨rfl, _⟩ | ⟨j, rfl, z | ⟨d, z, _⟩⟩
      · rw [sta] at z2
        simp at z2
        exact z2.symm
      · cases z
      · cases z
    have hlen : (L2.start N (V.ref a :: vs')).length = (Sl.o d0 :: envP (N.length - 1) ds).length := by
      rw [sta]
      unfold envP
      simp [h4.len]
    have R : Rn K [a] F0 (L2.start N (V.ref a :: vs')) H (Sl.o d0 :: envP (N.length - 1) ds) := by
      refine ⟨h1, hlen, fun i s h => ?_, fun i j b dd dd' z1 z2 z3 z4 => ?_, fun i b h => ?_⟩
      · have hlt : i < (L2.start N (V.ref a :: vs')).length := by rw [hlen]; exact (List.getElem?_eq_some_iff.mp h).1
        rcases at0 h with ⟨rfl, rfl⟩ | ⟨j, rfl, rfl | ⟨d, rfl, z⟩⟩
        · exact ⟨_, by rw [sta] <;> rfl, a, rfl, h2, h3⟩
        · exact ⟨_, List.getElem?_eq_getElem hlt, trivial⟩
        · obtain ⟨v, g1, g2⟩ := h4.get z
          exact ⟨_, start_at (by simpa using g1), v, rfl, g2⟩
      · rcases at0 z1 with ⟨rfl, _⟩ | ⟨j', rfl, z | ⟨d, z, _⟩⟩
        · rcases at0 z2 with ⟨rfl, _⟩ | ⟨j', rfl, z | ⟨d, z, _⟩⟩
          · rfl
          · cases z
          · cases z
        · cases z
        · cases z
      · cases i with
        | zero => simp at h; subst h; rw [sta] <;> rfl
        | succ => simp at h
    unfold runI at h6
    split at h6
    · rename_i fl e' hf
      split at h6
      · rename_i d1' he
        have fin : ∀ {σ' : L2.St} {F' H' : Hp}, Rn K [a] F' σ' H' e' → Step (L2.start N (V.ref a :: vs')) (Sl.o d0 :: envP (N.length - 1) ds) F0 H σ' e' F' H' → NewI F0 H F' H' a ∧ ObR K F' H' a d1' := fun {σ' F' H'} R' S' => by
          obtain ⟨a', z1, z2, z3, _⟩ := R'.own (i := 0) (by rw [← List.head?_eq_getElem?]; exact he)
          have := R'.io 0 a rfl
          rw [this] at z1
          cases z1
          refine ⟨⟨S'.ex, R'.ex, fun b o h n => S'.fr b o h fun z => n (own1 b z), fun b o h => ?_, z2⟩, z3⟩
          rcases S'.nw b o h with z | z | z
          · exact .inl z
          · exact .inr z
          · rw [own1 b z, z2] at h; cases h
        split at h6
        · cases h6
          exact r [a] F0 _ H _ _ e' rfl R hf _ fun xv σ' F' H' R' S' rr => let ⟨n, o⟩ := fin R' S'; q xv F' H' n o rr
        · cases h6
          exact r [a] F0 _ H _ _ e' rfl R hf _ fun σ' F' H' R' S' => let ⟨n, o⟩ := fin R' S'; q .non F' H' n o .non
        · cases h6
      · cases h6
    · cases h6

/-! ### the script's own def, the law -/
def spS (K : PySem.W.Frag) (g : List Int → Option (List D)) : Sp := fun vs H Q _ => ∃ (F : Hp) (a : Addr) (ns : List Int) (d : List D), vs = [.ref a] ∧ Same F H ∧ SqL K F a (ns.map V.int) ∧ g ns = some d ∧
  ∀ p F' H' xs, New F H F' H' → F' p = none → H p = none → H' p = some (.lst xs) → RpAll K F' xs d → Q (.ref p) H'
def runS (m : Nat) (fb : ME Fl) : List Int → Option (List D) := fun ns => match fb (.s ns :: List.replicate (m - 1) .u) with
  | some (.rn (.list d), _) => some d
  | _ => none
theorem rn_startS {N : List Str} {F H : Hp} {a : Addr} {ns : List Int} (e : Same F H) (h : SqL K F a (ns.map V.int)) (hN : 1 ≤ N.length) : Rn K [] F (L2.start N [V.ref a]) H (.s ns :: List.replicate (N.length - 1) .u) ∧ ∀ b, ¬ Own (L2.start N [V.ref a]) (.s ns :: List.replicate (N.length - 1) .u) b := by
  have sta : L2.start N [V.ref a] = some (V.ref a) :: List.replicate (N.length - 1) none := rfl
  have at0 : ∀ {i : Nat} {s : Sl}, (Sl.s ns :: List.replicate (N.length - 1) .u)[i]? = some s → (i = 0 ∧ s = .s ns) ∨ (i ≠ 0 ∧ s = .u) := fun {i s} h => by
    cases i with
    | zero => simp at h; exact .inl ⟨rfl, h.symm⟩
    | succ j =>
      refine .inr ⟨by simp, ?_⟩
      have h : (List.replicate (N.length - 1) Sl.u)[j]? = some s := by simpa using h
      rw [List.getElem?_replicate] at h
      split at h
      · cases h; rfl
      · cases h
  have hlen : (L2.start N [V.ref a]).length = (Sl.s ns :: List.replicate (N.length - 1) .u).length := by rw [sta]; simp
  refine ⟨⟨e, hlen, fun i s h2 => ?_, fun i j b d d' z1 _ _ _ => ?_, fun i b h2 => by simp at h2⟩, fun b ⟨i, d, z1, _⟩ => ?_⟩
  · have hlt : i < (L2.start N [V.ref a]).length := by rw [hlen]; exact (List.getElem?_eq_some_iff.mp h2).1
    rcases at0 h2 with ⟨rfl, rfl⟩ | ⟨_, rfl⟩
    · exact ⟨_, by rw [sta] <;> rfl, a, rfl, h⟩
    · exact ⟨_, List.getElem?_eq_getElem hlt, trivial⟩
  · rcases at0 z1 with ⟨_, z⟩ | ⟨_, z⟩ <;> cases z
  · rcases at0 z1 with ⟨_, z⟩ | ⟨_, z⟩ <;> cases z
theorem fn_s {x qual : Str} {st : Stmt} {f : Addr} {fd : FuncData} {N : List Str} {y : Str} {k : Nat} (F : Fun K x qual st f fd) (S : FnScope N [y] (defScope st)) (fb : ME Fl) (hN : 1 ≤ N.length)
    (hb : ∀ (cdv : Value) (A : Around) (outer : List Env) (s : Shared) (H : Hp) (E : XK), Room k (A.deeper (envOfC qual (defScope st) s.heap.objs.size f cdv)) → (A.deeper (envOfC qual (defScope st) s.heap.objs.size f cdv)).guards = some [] →
      DB (cxOf CX0 P w K mg base N qual (defScope st) f cdv A outer s H E).nox 0 (defBody st) fb) : FnG P w K mg base (k + 1) f fd [y] (spS K (runS N.length fb)) := by
  refine okG F S (fun vs H Q E h => ?_) fun cdv A outer s H vs Q E room gd want => ?_
  · obtain ⟨F0, a, ns, d, rfl, _⟩ := h
    rfl
  · obtain ⟨t, p, r⟩ := hb cdv A outer s H E room gd
    obtain ⟨F0, a, ns, d, rfl, h1, h2, h4, q⟩ := want
    refine ⟨t, p, ?_⟩
    obtain ⟨R, no⟩ := rn_startS (N := N) h1 h2 hN
    unfold runS at h4
    split at h4
    · rename_i dd e' hf
      cases h4
      refine r [] F0 _ H _ _ e' rfl R hf _ fun pa σ' F' H' R' S' q1 q2 q3 o => ?_
      obtain ⟨xs, o1, o2⟩ := o
      exact q _ F' H' xs (new_of S' R'.ex no) q1 (q2.resolve_left (no pa)) o1 o2
    · cases h4
def spL (K : PySem.W.Frag) : Sp := fun vs H Q _ => ∃ (a : Addr) (ns : List Int), vs = [.ref a] ∧ SqL K H a (ns.map V.int) ∧ ns.length ≤ 63 ∧ ∀ H', Q (.bl true) H'
theorem fn_l {x qual : Str} {st : Stmt} {f : Addr} {fd : FuncData} {N : List Str} {y : Str} {k : Nat} (F : Fun K x qual st f fd) (S : FnScope N [y] (defScope st)) (fb : ME Fl) (hN : 1 ≤ N.length)
    (hb : ∀ (cdv : Value) (A : Around) (outer : List Env) (s : Shared) (H : Hp) (E : XK), Room k (A.deeper (envOfC qual (defScope st) s.heap.objs.size f cdv)) → (A.deeper (envOfC qual (defScope st) s.heap.objs.size f cdv)).guards = some [] →
      DB (cxOf CX0 P w K mg base N qual (defScope st) f cdv A outer s H E).nox 0 (defBody st) fb)
    (holds : ∀ ns : List Int, ns.length ≤ 63 → ∃ e', fb (.s ns :: List.replicate (N.length - 1) .u) = some (.rt (.bool true), e')) : FnG P w K mg base (k + 1) f fd [y] (spL K) := by
  refine okG F S (fun vs H Q E h => ?_) fun cdv A outer s H vs Q E room gd want => ?_
  · obtain ⟨a, ns, rfl, _⟩ := h
    rfl
  · obtain ⟨t, p, r⟩ := hb cdv A outer s H E room gd
    obtain ⟨a, ns, rfl, h1, h2, q⟩ := want
    refine ⟨t, p, ?_⟩
    obtain ⟨R, no⟩ := rn_startS (N := N) (Same.refl H) h1 hN
    obtain ⟨e', hf⟩ := holds ns h2
    refine r [] H _ H _ _ e' rfl R hf _ fun xv σ' F' H' R' S' rr => ?_
    rw [rp_bool rr]
    exact q H'
end

section
variable {X : Cx} {n : Nat} {a b c tg : Expr} {es : List Expr} {pos p : Pos} {fa fb : ME D} {fs : ME (List D)} {x : Str} {K : PySem.W.Frag} {k : Nat} {f : Addr} {fd : FuncData} {ps : List Str}
/-- script[:m] -/
def slSc (i : Nat) (m : Int) : ME (List D) := fun e => match e[i]? with
  | some (.s ns) => some ((cutA ns none (some m)).map .int, e)
  | _ => none
theorem cutA_map {α β : Type} (g : α → β) (xs : List α) (lo hi : Option Int) : cutA (xs.map g) lo hi = (cutA xs lo hi).map g := by
  unfold cutA
  rw [List.length_map, List.map_take, List.map_drop]
theorem n_slSc (i : Nat) {m : Int} {j : Nat} {pn p2 pm : Pos} (hN : X.N[i]? = some x := by rfl) (hv : Vis X.env.scope x := by first | exact Or.inl rfl | exact Or.inr (Or.inl rfl) | exact Or.inr (Or.inr rfl)) (hd : (x == ("__debug__" : Str)) = false := by decide)
    (hcd : (x == ("__classdict__" : Str)) = false := by decide) : DN X n (.Subscript (.Name x pn) (.Slice none (some (.Constant (.int m) j pm)) none p2) pos) (slSc i m) := by
  refine ⟨_, pe_slice sl_list (pe_var hN hv hd hcd) po_none (po_some pe_int), fun io F σ H e d e' hn R h Q q => ?_⟩
  unfold slSc at h
  split at h
  · rename_i ns h0
    cases h
    obtain ⟨y, y1, a0, rfl, y2⟩ := R.sl i _ h0
    refine ⟨.ref a0, y1, m, rfl, a0, ns.map V.int, rfl, Same.sql R.ex y2, fun p hp => ?_⟩
    obtain ⟨R2, S2⟩ := R.new (New.made (p := p) (o := .lst (cutV (ns.map V.int) none (some m))) R.ex hp)
    refine q p F _ _ R2 S2 (R.ex.free hp) hp (fresh_own (F' := F) (H' := H) R hp) upd_same ?_
    rw [cutV_A, cutA_map]
    exact RpAll.ofInts _
  · cases h
def clS (g : List Int → Option (List D)) (i : Nat) : ME (List D) := fun e => match e[i]? with
  | some (.s ns) => match g ns with
    | some d => some (d, e)
    | none => none
  | _ => none
theorem n_callS {g : List Int → Option (List D)} {y : Str} {py : Pos} (i : Nat) (F : FnG X.prog X.w X.K X.mg X.base k f fd ps (spS X.K g)) (room : Room k X.A) (gd : X.A.guards = some []) (hm : X.mg x = some (.ref f)) (hk : PySem.W.keepIn X.K (.ref f) = true)
    (bd' : Binds X.K fd ps []) (hN : X.N[i]? = some y := by rfl) (hv : Vis X.env.scope y := by first | exact Or.inl rfl | exact Or.inr (Or.inl rfl) | exact Or.inr (Or.inr rfl)) (hd : (y == ("__debug__" : Str)) = false := by decide)
    (hcd : (y == ("__classdict__" : Str)) = false := by decide) (hg : Gl X x := by rfl) (hdb : (x == ("__debug__" : Str)) = false := by decide)
    (he : starEach (.Name y py :: []) X.env = (false, eval (.Name y py) X.env) :: starEach [] X.env := by rfl) (hpl : (backTo pos (starEach [] X.env)).any (·.1) = false := by rfl) : DN X n (.Call (.Name x p) [.Name y py] [] pos) (clS g i) := by
  refine ⟨_, pe_callG F room gd hm hk bd' (pa_cons (pe_var hN hv hd hcd) pa_nil he) hg hdb he hpl, fun io F0 σ H e d e' hn R h Q q => ?_⟩
  unfold clS at h
  split at h
  · rename_i ns h0
    split at h
    · rename_i dd h1
      cases h
      obtain ⟨y, y1, a0, rfl, y2⟩ := R.sl i _ h0
      refine ⟨.ref a0, y1, F0, a0, ns, d, rfl, R.ex, y2, h1, fun z F2 H2 ys N2 z1 z2 z3 r2 => ?_⟩
      obtain ⟨R2, S2⟩ := R.new N2
      exact q z F2 H2 ys R2 S2 z1 z2 (fresh_own (F' := F2) (H' := H2) R z2) z3 r2
    · cases h
  · cases h

/-! ### isinstance -/
def tyS : D → String
  | .none => "NoneType"
  | .bool _ => "bool"
  | .int _ => "int"
  | .str _ => "str"
  | .list _ => "list"
  | .tuple _ => "tuple"
  | .dict _ => "dict"
def isiD (g : D → Bool) (d : D) : Option D := some (.bool (g d))
def isInt : D → Bool
  | .int _ => true
  | .bool _ => true
  | _ => false
def isBool : D → Bool
  | .bool _ => true
  | _ => false
def isStr : D → Bool
  | .str _ => true
  | _ => false
def isTup : D → Bool
  | .tuple _ => true
  | _ => false
theorem k_int (d : D) : kitB (tyS d) "int" = some (isInt d) := by cases d <;> (dsimp only [tyS, isInt]; decide +kernel)
theorem k_bool (d : D) : kitB (tyS d) "bool" = some (isBool d) := by cases d <;> (dsimp only [tyS, isBool]; decide +kernel)
theorem k_str (d : D) : kitB (tyS d) "str" = some (isStr d) := by cases d <;> (dsimp only [tyS, isStr]; decide +kernel)
theorem k_tup (d : D) : kitB (tyS d) "tuple" = some (isTup d) := by cases d <;> (dsimp only [tyS, isTup]; decide +kernel)
theorem ty_of {F H : Hp} {v : V} {d : D} (e : Same F H) (h : Rp K F v d) : TyX K H v (.type (tyS d)) := by
  cases h with
  | non => exact .base .non
  | bl b => exact .base (.bl b)
  | int i => exact .base (.int i)
  | str y => exact .base (.str y)
  | lst h1 h2 => exact .base (.lst (e _ _ h1))
  | tup h1 h2 =>
    rcases h1 with (h1 | ⟨o, h1⟩) | ⟨o, its, m, z1, z2, _⟩
    · exact .base (.tup (e _ _ h1))
    · exact .fTuple (e _ _ h1)
    · exact .kTuple z1 z2
theorem e_isi {T : String} {xT : Str} {pt : Pos} {g : D → Bool} (hk : ∀ d, kitB (tyS d) T = some (g d)) (hm : X.mg "isinstance" = none) (hmT : X.mg xT = none) (hv : bootBuiltins xT = some (.type T)) (ha : DE X n a fa) (hg : Gl X "isinstance" := by rfl) (hgT : Gl X xT := by rfl)
    (hnT : xT ≠ "__name__" := by decide) (hdT : (xT == ("__debug__" : Str)) = false := by decide)
    (he : starEach (a :: [.Name xT pt]) X.env = (false, eval a X.env) :: starEach [.Name xT pt] X.env := by rfl) (he2 : starEach (.Name xT pt :: []) X.env = (false, eval (.Name xT pt) X.env) :: starEach [] X.env := by rfl)
    (hpl : (backTo pos (starEach [.Name xT pt] X.env)).any (·.1) = false := by rfl) : DE X n (.Call (.Name "isinstance" p) [a, .Name xT pt] [] pos) (u1 (isiD g) fa) := by
  obtain ⟨t, pt', r⟩ := ha
  refine ⟨_, pe_callB call_isi hg hm (by decide +kernel) (pa_cons pt' (pa_cons (pe_bltn (v := .ty T) hgT hmT hv rfl hnT hdT) pa_nil he2) he) (by decide) (by decide) he hpl, fun io F σ H e d e' hn R h Q q => ?_⟩
  obtain ⟨d1, e1, h1, h⟩ := bd_some h
  obtain ⟨h2, rfl⟩ := lf_some h
  cases h2
  refine r io F σ H e d1 e' hn R h1 _ fun xv F1 H1 R1 S1 r1 => ?_
  exact ⟨xv, .ty T, .type (tyS d1), .type T, g d1, rfl, .ty T, ty_of R1.ex r1, kit_ty (hk d1), q _ F1 H1 R1 S1 (.bl _)⟩

/-! ### texts -/
def strsOf : List D → Option (List Str)
  | [] => some []
  | .str i :: r => (strsOf r).map (i :: ·)
  | _ => none
theorem strsOf_some : ∀ {ds : List D} {ns : List Str}, strsOf ds = some ns → ds = ns.map PyData.str
  | [], _, h => by cases h; rfl
  | d :: r, ns, h => by
    cases d with
    | str i =>
      unfold strsOf at h
      cases z : strsOf r with
      | none => rw [z] at h; cases h
      | some m => rw [z] at h; cases h; rw [strsOf_some z] <;> rfl
    | none => cases h
    | int => cases h
    | bool => cases h
    | list => cases h
    | tuple => cases h
    | dict => cases h
theorem strsOf_map : ∀ (ns : List Str), strsOf (ns.map PyData.str) = some ns
  | [] => rfl
  | n :: r => by
    show (strsOf (r.map PyData.str)).map (n :: ·) = some (n :: r)
    rw [strsOf_map r] <;> rfl
def joinD : D → D → Option D
  | .str s, .list ds => (strsOf ds).bind fun ys => if (ys.map (·.length)).sum + ys.length * s.length ≤ 1000000 then some (.str (Txt.join s ys)) else none
  | _, _ => none
theorem joinD_some {x y d : D} (h : joinD x y = some d) : ∃ (s : Str) (ys : List Str), x = .str s ∧ y = .list (ys.map PyData.str) ∧ (ys.map (·.length)).sum + ys.length * s.length ≤ 1000000 ∧ d = .str (Txt.join s ys) := by
  unfold joinD at h
  split at h
  · rename_i s ds
    cases z : strsOf ds with
    | none => rw [z] at h; cases h
    | some ys =>
      rw [z] at h
      by_cases hz : (ys.map (·.length)).sum + ys.length * s.length ≤ 1000000
      · have h : some (PyData.str (Txt.join s ys)) = some d := by simpa [hz] using h
        cases h
        exact ⟨s, ys, rfl, by rw [strsOf_some z], hz, rfl⟩
      · simp [hz] at h
  · cases h
theorem e_join {pa' pc : Pos} (ha : DE X n a fa) (hb : DE X n b fb) (hs : starEach [b] X.env = [(false, eval b X.env)] := by rfl) (hbase : attributeBase a "join" X.env (eval a X.env) = eval a X.env := by rfl) (hline : (pa'.endLine == pc.line) = true := by rfl) :
    DE X n (.Call (.Attribute a "join" pa') [b] [] pc) (b2 joinD fa fb) := by
  obtain ⟨t, pt, r⟩ := ha
  obtain ⟨t2, pt2, r2⟩ := hb
  refine ⟨_, pe_join pt pt2 hs hbase hline, fun io F σ H e d e' hn R h Q q => ?_⟩
  obtain ⟨d1, e1, h1, h⟩ := bd_some h
  obtain ⟨d2, e2, h2, h⟩ := bd_some h
  obtain ⟨h3, rfl⟩ := lf_some h
  obtain ⟨s, ys, rfl, rfl, hz, rfl⟩ := joinD_some h3
  refine r io F σ H e _ e1 hn R h1 _ fun xv F1 H1 R1 S1 r1 => ⟨⟨s, rp_str r1⟩, ?_⟩
  refine r2 io F1 σ H1 e1 _ e' hn R1 h2 _ fun yv F2 H2 R2 S2 r3 => ?_
  obtain ⟨p1, xs, rfl, s1, q1⟩ := rp_list r3
  rw [q1.strs] at s1
  exact ⟨s, p1, ys, rp_str r1, rfl, .inl (sql_of R2.ex s1), by omega, q _ F2 H2 R2 (S1.trans S2) (.str _)⟩
def countD : D → D → Option D
  | .str s, .str z => some (.int (Txt.count s z))
  | _, _ => none
theorem countD_some {x y d : D} (h : countD x y = some d) : ∃ s z : Str, x = .str s ∧ y = .str z ∧ d = .int (Txt.count s z) := by
  unfold countD at h
  split at h
  · cases h
    exact ⟨_, _, rfl, rfl, rfl⟩
  · cases h
theorem e_count {pa' pc : Pos} (ha : DE X n a fa) (hb : DE X n b fb) (hs : starEach [b] X.env = [(false, eval b X.env)] := by rfl) (hbase : attributeBase a "count" X.env (eval a X.env) = eval a X.env := by rfl) (hline : (pa'.endLine == pc.line) = true := by rfl) :
    DE X n (.Call (.Attribute a "count" pa') [b] [] pc) (b2 countD fa fb) := by
  obtain ⟨t, pt, r⟩ := ha
  obtain ⟨t2, pt2, r2⟩ := hb
  refine ⟨_, pe_m1 F.slot_str_count F.type_str_count mt_count pt pt2 hs hbase hline, fun io F σ H e d e' hn R h Q q => ?_⟩
  obtain ⟨d1, e1, h1, h⟩ := bd_some h
  obtain ⟨d2, e2, h2, h⟩ := bd_some h
  obtain ⟨h3, rfl⟩ := lf_some h
  obtain ⟨s, z, rfl, rfl, rfl⟩ := countD_some h3
  refine r io F σ H e _ e1 hn R h1 _ fun xv F1 H1 R1 S1 r1 => ⟨⟨s, rp_str r1⟩, ?_⟩
  refine r2 io F1 σ H1 e1 _ e' hn R1 h2 _ fun yv F2 H2 R2 S2 r3 => ?_
  exact ⟨s, z, rp_str r1, by rw [rp_str r3], q _ F2 H2 R2 (S1.trans S2) (.int _)⟩
/-! x[::-1] -/
def tRevA (K : PySem.W.Frag) (te : TE) : TE := fun σ H Q => te σ H fun x H1 => (∃ a xs, x = .ref a ∧ SqL K H1 a xs ∧ ∀ p, H1 p = none → Q (.ref p) (upd H1 p (.lst xs.reverse))) ∨ ∃ z : Str, x = .str z ∧ z.length ≤ sizeLine ∧ Q (.str ⟨z.cps.toList.reverse.toArray⟩) H1
theorem rev_picked (z : Str) (t : Tok) : ((slicePicked z none none (some (-1, t))).filterMap (z.cps[·]?)) = z.cps.toList.reverse := by
  show (Builtin.Str.strSliceIndices none none (-1) z.length).filterMap (z.cps[·]?) = z.cps.toList.reverse
  have e : Builtin.Str.strSliceIndices none none (-1) z.length = (List.range z.cps.size).reverse := by
    show sliceRange ((z.cps.size : Int) - 1) (-1) (-1) = _
    rw [PySem.W.krv_sliceRange, PySem.W.krv_range]
  rw [e, List.filterMap_reverse, PySem.W.krv_all]
theorem pe_revA {te : TE} {j : Nat} {p1 p2 p3 : Pos} (he : PE X a te) : PE X (.Subscript a (.Slice none none (some (.UnaryOp .USub (.Constant (.int 1) j p1) p2)) p3) pos) (tRevA X.K te) where
  run pins s σ H Q I h := by
    refine Subscript_ (thn (he.run pins s σ H _ I h) fun v s1 post => ?_)
    obtain ⟨x0, H1, I1, rel, q⟩ := post
    have step : PO X (some (.UnaryOp .USub (.Constant (.int 1) j p1) p2)) (tPart (tUn (rU fun i => .int (-i)) (tC (.int 1)))) := po_some (pe_un un_neg pe_int)
    refine wpAny_Slice (thn (po_none.run pins s1 σ H1 (fun o G => o = none ∧ G = H1) I1 ⟨rfl, rfl⟩) fun vl s2 z2 => ?_)
    obtain ⟨l, H2, I2, pl, rfl, rfl⟩ := z2
    refine thn (po_none.run pins s2 σ H2 (fun o G => o = none ∧ G = H2) I2 ⟨rfl, rfl⟩) fun vu s3 z3 => ?_
    obtain ⟨u, H3, I3, pu, rfl, rfl⟩ := z3
    refine thn (step.run pins s3 σ H3 (fun o G => o = some (-1) ∧ G = H3) I3 ⟨1, rfl, -1, rfl, rfl, rfl⟩) fun vs s4 z4 => ?_
    obtain ⟨o, H4, I4, ps', rfl, rfl⟩ := z4
    have I5 : Inv X pins σ H4 { s4 with heap := s4.heap.push { cls := .type "slice", data := .fields #[vl, vu, vs] } } := I4.kept (t' := s4.toks) fun b ob w => Heap.get?_push_of_some _ w
    rcases q with ⟨a0, xs, rfl, hx, q⟩ | ⟨z, rfl, hz, q⟩
    · cases rel
      obtain ⟨its, rv, ht, hz⟩ := I5.list hx
      have hlen := rv.length
      show wpAny (model X.prog X.w) X.A (subscriptTail a (.Slice none none (some (.UnaryOp .USub (.Constant (.int 1) j p1) p2)) p3) (.ref a0) (.ref s4.heap.objs.size)) (EP X pins σ Q) X.xe { s4 with heap := s4.heap.push { cls := .type "slice", data := .fields #[vl, vu, vs] } }
      refine tail_any (ops := [.ref a0, .ref s4.heap.objs.size]) ht.isList.typeIs (PySem.slot_list_getitem.lookup) ?_ (by with_unfolding_all rfl)
      refine wpAny_getItem_list_slice ht.isList (Heap.IsSliceOf.new _ vl vu vs) pl pu ps' (by decide) ?_ (by rw [List.size_toArray]; omega)
      rw [PySem.W.krv_pick]
      refine ⟨.ref _, _, I5.laid (t' := s4.toks) (o := .lst xs.reverse) (fun b ob w => Heap.get?_push_of_some _ w) (Nat.le_refl _) ⟨by rw [List.length_reverse]; exact hz, _, 0, rv.reverse, Heap.get?_push_size _ rfl⟩, rfl, q _ (I5.hok.fresh (Nat.le_refl _))⟩
    · obtain ⟨t, rfl⟩ := rel
      obtain ⟨l, rfl, hl⟩ := IsPart.raw pl
      obtain ⟨u, rfl, hu⟩ := IsPart.raw pu
      obtain ⟨stp, rfl, hs⟩ := IsPart.raw ps'
      cases l with
      | some => cases hl
      | none =>
        cases u with
        | some => cases hu
        | none =>
          cases stp with
          | none => cases hs
          | some w =>
            obtain ⟨w1, w2⟩ := w
            have hw : w1 = -1 := Option.some.inj hs
            subst hw
            show wpAny (model X.prog X.w) X.A (subscriptTail a (.Slice none none (some (.UnaryOp .USub (.Constant (.int 1) j p1) p2)) p3) (.str z t) (.ref s4.heap.objs.size)) (EP X pins σ Q) X.xe _
            refine tail_any (ops := [.ref s4.heap.objs.size, .str z t]) (typeIs_str _ _ _) F.slot_str_getitem.lookup ?_ (by with_unfolding_all rfl)
            refine wpAny_getItem_str_slice (l := none) (u := none) (st := some (-1, w2)) ⟨_, Heap.get?_push_size _ rfl, rfl, rfl⟩ rfl ?_
            show Made.post (if false = true then _ else _) _ _
            rw [if_neg Bool.false_ne_true, rev_picked]
            refine ⟨?_, .str _, _, I5.tok _, ⟨_, rfl⟩, q⟩
            show (z.cps.toList.reverse.toArray).size ≤ sizeLine
            rw [List.size_toArray, List.length_reverse, Array.length_toList]
            exact hz
def revD : D → Option D
  | .list ds => some (.list ds.reverse)
  | .str z => if z.length ≤ 1000000 then some (.str ⟨z.cps.toList.reverse.toArray⟩) else none
  | _ => none
theorem e_rev {j : Nat} {p1 p2 p3 : Pos} (ha : DE X n a fa) : DE X n (.Subscript a (.Slice none none (some (.UnaryOp .USub (.Constant (.int 1) j p1) p2)) p3) pos) (u1 revD fa) := by
  obtain ⟨t, pt, r⟩ := ha
  refine ⟨_, pe_revA pt, fun io F σ H e d e' hn R h Q q => ?_⟩
  obtain ⟨d1, e1, h1, h⟩ := bd_some h
  obtain ⟨h2, rfl⟩ := lf_some h
  refine r io F σ H e d1 e' hn R h1 _ fun xv F1 H1 R1 S1 r1 => ?_
  unfold revD at h2
  split at h2
  · cases h2
    obtain ⟨p1, xs, rfl, s1, q1⟩ := rp_list r1
    refine .inl ⟨p1, xs, rfl, sql_of R1.ex s1, fun p hp => ?_⟩
    obtain ⟨n2, r2⟩ := laidL R1.ex hp q1.reverse
    obtain ⟨R2, S2⟩ := R1.new n2
    exact q _ _ _ R2 (S1.trans S2) r2
  · split at h2
    · rename_i hz
      cases h2
      exact .inr ⟨_, rp_str r1, big_le hz, q _ F1 H1 R1 S1 (.str _)⟩
    · cases h2
  · cases h2
/-! {"k": v, ..}[e] with two written texts -/
def dsub (k1 v1 k2 v2 : Str) : D → Option D
  | .str s => if s = k1 ∧ k1 ≠ k2 then some (.str v1) else if s = k2 ∧ k1 ≠ k2 then some (.str v2) else none
  | _ => none
end
end DL

namespace DL
open PySem PySem.Spec PyProof.Rows L2

section
variable {X : Cx} {n : Nat} {a b c tg : Expr} {es : List Expr} {pos p : Pos} {fa fb : ME D}
theorem e_dsub2 {k : Nat} {k1 v1 k2 v2 : Str} {j1 j2 j3 j4 : Nat} {p1 p2 p3 p4 pd : Pos} (room : Room k X.A) (hb : DE X n b fb) (hs : NoSl b := by exact fun _ _ => rfl) :
    DE X n (.Subscript (.Dict [some (.Constant (.str k1) j1 p1), some (.Constant (.str k2) j2 p2)] [.Constant (.str v1) j3 p3, .Constant (.str v2) j4 p4] pd) b pos) (u1 (dsub k1 v1 k2 v2) fb) := by
  obtain ⟨t, pt, r⟩ := hb
  have hu : X.A.units + 1 < cLine := by have := room.units; omega
  refine ⟨_, pe_dget hu (pe_disp (pps_cons pe_str pe_str (pps_cons pe_str pe_str pps_nil)) rfl rfl (fun z => by cases z) (Nat.le_of_ble_eq_true rfl)) pt hs, fun io F σ H e d e' hn R h Q q => ?_⟩
  obtain ⟨d1, e1, h1, h⟩ := bd_some h
  obtain ⟨h2, rfl⟩ := lf_some h
  refine fun q0 hq0 => ⟨upd_same, [(.inr k1, .str v1), (.inr k2, .str v2)], rfl, Nat.le_of_ble_eq_true rfl, ?_⟩
  rw [upd_upd]
  obtain ⟨R2, S2⟩ := R.new (New.made (p := q0) (o := .dK (mergeK [] [(.inr k1, .str v1), (.inr k2, .str v2)])) R.ex hq0)
  refine r io F σ _ e d1 e' hn R2 h1 _ fun xv F1 H1 R1 S1 r1 => ?_
  obtain ⟨_, w, _⟩ := S1.kept (R.ex.free hq0) upd_same (fresh_own (F' := F) (H' := H) R hq0)
  unfold dsub at h2
  split at h2
  · rename_i s
    rw [rp_str r1]
    have hne : ∀ x y : Str, x ≠ y → decide ((Sum.inr x : Key) = Sum.inr y) = false := fun x y z => by rw [key_rr]; exact decide_eq_false z
    have g := DGet.k (k := Sum.inr s) w
    split at h2
    · rename_i hz
      cases h2
      obtain ⟨rfl, z2⟩ := hz
      refine ⟨q0, .str v1, rfl, ?_, q _ F1 H1 R1 (S2.trans S1) (.str _)⟩
      have : valV (mergeK [] [(Sum.inr s, V.str v1), (Sum.inr k2, V.str v2)]) (Sum.inr s) = some (V.str v1) := by
        simp [mergeK, putK, valV, z2, Ne.symm z2]
      rw [this] at g
      exact g
    · split at h2
      · rename_i hz
        cases h2
        obtain ⟨rfl, z2⟩ := hz
        refine ⟨q0, .str v2, rfl, ?_, q _ F1 H1 R1 (S2.trans S1) (.str _)⟩
        have : valV (mergeK [] [(Sum.inr k1, V.str v1), (Sum.inr s, V.str v2)]) (Sum.inr s) = some (V.str v2) := by
          simp [mergeK, putK, valV, z2, Ne.symm z2]
        rw [this] at g
        exact g
      · cases h2
  · cases h2
end

/-! ### the law's own call -/
theorem law_callG {P : Program} {w : World} {K : PySem.W.Frag} {mg mb : Str → Option Value} {k : Nat} {fa a : Addr} {fd : FuncData} {x : Str} {sp : Sp} {s : Shared} {vs : List Value} {ns : List Int}
    (kin : K.In s.heap) (names : s.heap.Ns mainGlobals mg) (bns : s.heap.Ns builtinsNs mb) (boot : ∀ x : Str, x ≠ "__name__" → mb x = bootBuiltins x) (lim : s.heap.NoLimit) (gens : s.gens = #[])
    (obj : s.heap.get? a = some { cls := .type "list", data := .seq vs.toArray }) (whole : IntsAre vs ns) (few : ns.length ≤ sizeLine) (room : Room k callerA)
    (F : ∀ base : Heap, K.In base → base.Ns mainGlobals mg → FnG P w K mg base k fa fd [x] sp) (bind : ∀ (s : Shared) (u : Value), BindsTo s fd ⟨[u], []⟩ [(x, u)])
    (want : ∀ H : Hp, Only H → SqL K H a (ns.map V.int) → sp [.ref a] H (fun v _ => v = .bl true) fun _ _ _ => False) :
    codeAny (model P w) callerA (.call (.ref fa) ⟨[.ref a], []⟩) (fun r s' => r = .ok (.ret (.bool true)) ∧ OldK s.heap s'.heap ∧ s'.os = s.os ∧ AllBare s'.gens) s := by
  have rel := vals_ints whole
  have main : ∀ H : Hp, Only H → SqL K H a (ns.map V.int) → HOk P w H s.heap → (∀ b, H b ≠ none → b = a ∧ K.lookup a = none) →
      codeAny (model P w) callerA (.call (.ref fa) ⟨[.ref a], []⟩) (fun r s' => r = .ok (.ret (.bool true)) ∧ OldK s.heap s'.heap ∧ s'.os = s.os ∧ AllBare s'.gens) s := by
    intro H only seen held alone
    have known : ∀ {b : Addr} {u : HO}, H b = some u → b = a ∧ K.lookup a = none := fun {b u} z => alone b (by rw [z]; exact Option.some_ne_none _)
    have nsH : ∀ {b : Addr} {m : Str → Option Value}, s.heap.Ns b m → (hidT s.heap H).Ns b m := by
      rintro b m ⟨o, es, ep, h1, h2, h3⟩
      refine ⟨o, es, ep, hidT_get h1 ?_, h2, h3⟩
      cases z : H b with
      | none => rfl
      | some u =>
        have same := (known z).1
        rw [same, obj] at h1
        cases h1
        cases (show Data.seq vs.toArray _ = Data.dict es ep from h2)
    have kinH : K.In (hidT s.heap H) := by
      intro b o h1
      refine hidT_get (kin b o h1) ?_
      cases z : H b with
      | none => rfl
      | some u =>
        obtain ⟨same, off⟩ := known z
        rw [same, off] at h1
        cases h1
    obtain ⟨mc, l1, l2⟩ := lim
    have env : Env0 P w K mg (hidT s.heap H) callerA [] s H :=
      ⟨rfl, ⟨kinH, nsH names, ⟨mb, nsH bns, boot⟩, ⟨mc, nsH l1, l2⟩⟩, fun b o z => of_hidT z, Nat.le_of_eq (hidT_size _ _), trivial, (fun b hb => by cases hb), held, .of_eq gens⟩
    refine codeAny_mono ((F _ kinH (nsH names)).run callerA [] s H ⟨[.ref a], []⟩ [.ref a] [.ref a] _ _ room rfl env (bind s (.ref a)) (.cons rfl .nil) (want H only seen)) fun r s' post => ?_
    match r, post with
    | .error _, post => exact False.elim post
    | .ok (.ret u), post =>
      obtain ⟨v, H', os, bare, un, held', rv, q⟩ := post
      have q : v = .bl true := q
      subst q
      obtain rfl : u = Value.bool true := rv
      refine ⟨rfl, OldK.of_keep fun b o z => ?_, os, bare⟩
      cases y : H b with
      | none => exact un.keep b o z y (by intro hb; cases hb) (by intro hb; cases hb)
      | some u =>
        rcases only b with z2 | ⟨ob, xs, z2⟩
        · rw [y] at z2; cases z2
        · have h1 := (held b _ z2).1
          have h2 := (held' b _ (un.frzs b ob _ z2)).1
          rw [z] at h1
          cases h1
          exact h2
  cases off : K.lookup a with
  | some o =>
    have same := kin a o off
    rw [obj] at same
    cases same
    refine main (fun _ => none) (fun _ => .inl rfl) (.inr ⟨_, vs.toArray, _, off, rfl, rfl, rfl, ?_, by simpa using rel⟩) (fun b u z => by cases (show (none : Option HO) = some u from z)) fun b z => absurd rfl z
    rw [List.size_toArray, whole.length]
    exact few
  | none =>
    have yes : ∀ b, b = a → (if b = a then some (HO.frz { cls := .type "list", data := .seq vs.toArray } (.lst (ns.map V.int))) else none) = some (HO.frz { cls := .type "list", data := .seq vs.toArray } (.lst (ns.map V.int))) := fun b hb => if_pos hb
    have no : ∀ b, b ≠ a → (if b = a then some (HO.frz { cls := .type "list", data := .seq vs.toArray } (.lst (ns.map V.int))) else none) = none := fun b hb => if_neg hb
    refine main (fun b => if b = a then some (.frz { cls := .type "list", data := .seq vs.toArray } (.lst (ns.map V.int))) else none) (fun b => ?_) (.inl (.inr ⟨_, yes a rfl⟩)) (fun b u z => ?_) fun b z => ?_
    · by_cases hb : b = a
      · exact .inr ⟨_, _, yes b hb⟩
      · exact .inl (no b hb)
    · by_cases hb : b = a
      · cases (yes b hb).symm.trans z
        subst hb
        exact ⟨obj, by rw [List.length_map]; exact few, vs, _, rel, obj⟩
      · cases (no b hb).symm.trans z
    · by_cases hb : b = a
      · exact ⟨hb, off⟩
      · exact absurd (no b hb) z

theorem walk_ofG {l : PySem.W.OpenLaw} {n k : Nat} {q : Program} {loose : List Str} {XP : (Str → Option Value) → Heap → Prop} {YP : World → Heap → Prop} {d : DefRec} {K : Params → PySem.W.Frag} {x : Str}
    (most : l.most = some n) (n63 : n ≤ 63) (plain : d.params.defaults = []) (room : Room k callerA)
    (known : ∀ (w : World) (h : Heap), YP w h → (K w.params).In h)
    (F : ∀ (w : World) (mg : Str → Option Value) (fa : Addr) (h : Heap), (K w.params).In h → h.Ns mainGlobals mg → mg d.name = some (.ref fa) →
      ∃ fd : FuncData, (∀ (s : Shared) (u : Value), BindsTo s fd ⟨[u], []⟩ [(x, u)]) ∧
        ∀ base : Heap, (K w.params).In base → base.Ns mainGlobals mg → FnG l.prog w (K w.params) mg base k fa fd [x] (spL (K w.params))) :
    PySem.W.WalkO q loose XP YP l.row.toRowW d [] (fun f vs => PySem.call f vs) := by
  refine Att.attach_call most plain ?_
  intro w s0 s1 mg mb fa o pm cd doc a vs ns G Y _ _ _ atName obj whole few gens
  have kin := known w _ Y
  obtain ⟨fd, bind, ok⟩ := F w mg fa _ kin G.T.g atName
  exact law_callG kin G.T.g G.T.b G.T.builtins G.T.nolimit gens obj whole (Nat.le_trans (Nat.le_trans few n63) (by decide)) room ok bind fun H only seen => ⟨a, ns, rfl, seen, Nat.le_trans few n63, fun _ => rfl⟩
end DL

/-! DV: how the semantic functions are evaluated -/
namespace DL
open PySem PySem.Spec PyProof.Rows L2
section
variable {α β : Type} {e : En} {fa fb fc : ME D} {fs : ME (List D)} {g g' : D → D → Option D}
@[simp] theorem ap_bd (m : ME α) (f : α → ME β) (e : En) : bd m f e = (m e).bind fun p => f p.1 p.2 := by
  unfold bd
  cases m e <;> rfl
@[simp] theorem ap_rt (a : α) (e : En) : rt a e = some (a, e) := rfl
@[simp] theorem ap_lf (o : Option α) (e : En) : lf o e = o.map fun a => (a, e) := by cases o <;> rfl
def gv (e : En) (i : Nat) : Option D := match e, i with
  | .v d :: _, 0 => some d
  | _ :: r, i + 1 => gv r i
  | _, _ => none
@[simp] theorem gv_0 (d : D) (r : En) : gv (.v d :: r) 0 = some d := rfl
@[simp] theorem gv_s (s : Sl) (r : En) (i : Nat) : gv (s :: r) (i + 1) = gv r i := by cases s <;> rfl
def go (e : En) (i : Nat) : Option D := match e, i with
  | .o d :: _, 0 => some d
  | _ :: r, i + 1 => go r i
  | _, _ => none
@[simp] theorem go_0 (d : D) (r : En) : go (.o d :: r) 0 = some d := rfl
@[simp] theorem go_s (s : Sl) (r : En) (i : Nat) : go (s :: r) (i + 1) = go r i := by cases s <;> rfl
theorem gv_eq : ∀ (e : En) (i : Nat) (d : D), gv e i = some d ↔ e[i]? = some (.v d)
  | [], i, d => by cases i <;> simp [gv]
  | s :: r, 0, d => by cases s <;> simp [gv]
  | s :: r, i + 1, d => by rw [gv_s, List.getElem?_cons_succ]; exact gv_eq r i d
theorem go_eq : ∀ (e : En) (i : Nat) (d : D), go e i = some d ↔ e[i]? = some (.o d)
  | [], i, d => by cases i <;> simp [go]
  | s :: r, 0, d => by cases s <;> simp [go]
  | s :: r, i + 1, d => by rw [go_s, List.getElem?_cons_succ]; exact go_eq r i d
@[simp] theorem ap_nm (i : Nat) (e : En) : nm i e = (gv e i).map fun d => (d, e) := by
  unfold nm
  cases h : gv e i with
  | some d => rw [(gv_eq e i d).mp h] <;> rfl
  | none =>
    split
    · rename_i d hd
      rw [(gv_eq e i d).mpr hd] at h
      cases h
    · rfl
@[simp] theorem ap_b2 (e : En) : b2 g fa fb e = (fa e).bind fun p => (fb p.2).bind fun q => (g p.1 q.1).map fun d => (d, q.2) := by
  unfold b2
  simp
@[simp] theorem ap_b2L {g : D → D → Option (List D)} (e : En) : b2L g fa fb e = (fa e).bind fun p => (fb p.2).bind fun q => (g p.1 q.1).map fun d => (d, q.2) := by
  unfold b2L
  simp
@[simp] theorem ap_u1 {g : D → Option D} (e : En) : u1 g fa e = (fa e).bind fun p => (g p.1).map fun d => (d, p.2) := by
  unfold u1
  simp
@[simp] theorem ap_fr (e : En) : fr fs e = (fs e).map fun p => (.list p.1, p.2) := by
  unfold fr
  simp
  cases fs e <;> rfl
@[simp] theorem ap_aNil (e : En) : aNil e = some ([], e) := rfl
@[simp] theorem ap_aCons (e : En) : aCons fa fs e = (fa e).bind fun p => (fs p.2).map fun q => (p.1 :: q.1, q.2) := by
  unfold aCons
  simp
  cases fa e with
  | none => rfl
  | some p => simp; cases fs p.2 <;> rfl
@[simp] theorem ap_tupS (e : En) : tupS fs e = (fs e).bind fun p => ((shortL p.1).map .tuple).map fun d => (d, p.2) := by
  unfold tupS
  simp
@[simp] theorem ap_asB (b : Bool) : asB (.bool b) = some b := rfl
@[simp] theorem ap_tv (e : En) : tv fa e = (fa e).bind fun p => (asB p.1).map fun d => (d, p.2) := by
  unfold tv
  simp
@[simp] theorem ap_tAn (f g : ME Bool) (e : En) : tAn f g e = (f e).bind fun p => if p.1 = true then g p.2 else some (false, p.2) := by
  unfold tAn
  simp
  congr
  funext p
  split <;> rfl
@[simp] theorem ap_tOr (f g : ME Bool) (e : En) : tOr' f g e = (f e).bind fun p => if p.1 = true then some (true, p.2) else g p.2 := by
  unfold tOr'
  simp
  congr
  funext p
  split <;> rfl
@[simp] theorem ap_tNo (f : ME Bool) (e : En) : tNo f e = (f e).map fun p => (!p.1, p.2) := by
  unfold tNo
  simp
  cases f e <;> rfl
@[simp] theorem ap_vAn (e : En) : vAn fa fb e = (tv fa e).bind fun p => if p.1 = true then fb p.2 else some (.bool false, p.2) := by
  unfold vAn
  rw [ap_bd]
  congr
  funext p
  split <;> rfl
@[simp] theorem ap_vOr (e : En) : vOr fa fb e = (tv fa e).bind fun p => if p.1 = true then some (.bool true, p.2) else fb p.2 := by
  unfold vOr
  rw [ap_bd]
  congr
  funext p
  split <;> rfl
@[simp] theorem ap_vNo (e : En) : vNo fa e = (tv fa e).map fun p => (.bool (!p.1), p.2) := by
  unfold vNo
  rw [ap_bd]
  cases tv fa e <;> rfl
@[simp] theorem ap_ifE (c : ME Bool) (e : En) : ifE c fa fb e = (c e).bind fun p => if p.1 = true then fa p.2 else fb p.2 := by
  unfold ifE
  simp
  congr
  funext p
  split <;> rfl
@[simp] theorem ap_ch (e : En) : ch g g' fa fb fc e = (fa e).bind fun x => (fb x.2).bind fun y => ((g x.1 y.1).bind asB).bind fun z => if z = true then (fc y.2).bind fun w => (g' y.1 w.1).map fun d => (d, w.2) else some (.bool false, y.2) := by
  unfold ch
  simp
  congr
  funext x
  congr
  funext y
  cases g x.1 y.1 with
  | none => rfl
  | some d =>
    simp
    cases asB d with
    | none => rfl
    | some z => simp; cases z <;> simp
@[simp] theorem ap_cl (np : Nat) (g : List D → Option D) (e : En) : cl np g fs e = (fs e).bind fun p => (if p.1.length = np then g p.1 else none).map fun d => (d, p.2) := by
  unfold cl
  simp
@[simp] theorem ap_clL (np : Nat) (g : List D → Option (List D)) (e : En) : clL np g fs e = (fs e).bind fun p => (if p.1.length = np then g p.1 else none).map fun d => (d, p.2) := by
  unfold clL
  simp
@[simp] theorem ap_cb (g : List D → Option D) (e : En) : cb g fs e = (fs e).bind fun p => (g p.1).map fun d => (d, p.2) := by
  unfold cb
  simp
@[simp] theorem ap_cbL (g : List D → Option (List D)) (e : En) : cbL g fs e = (fs e).bind fun p => (g p.1).map fun d => (d, p.2) := by
  unfold cbL
  simp
@[simp] theorem ap_oNo (e : En) : oNo e = some (none, e) := rfl
@[simp] theorem ap_asI (i : Int) : asI (.int i) = some i := rfl
@[simp] theorem ap_oSo (e : En) : oSo fa e = (fa e).bind fun p => ((asI p.1).map some).map fun d => (d, p.2) := by
  unfold oSo
  simp
@[simp] theorem ap_slS (fl fh : ME (Option Int)) (e : En) : slS fa fl fh e = (fa e).bind fun x => (fl x.2).bind fun l => (fh l.2).bind fun h => (slD x.1 l.1 h.1).map fun d => (d, h.2) := by
  unfold slS
  simp
@[simp] theorem ap_seqI (e : En) : seqI fa e = (fa e).bind fun p => (seqD p.1).map fun d => (d, p.2) := by
  unfold seqI
  simp
@[simp] theorem ap_rngI (g : List D → Option (List D)) (e : En) : rngI g fs e = (fs e).bind fun p => (g p.1).map fun d => (d, p.2) := by
  unfold rngI
  simp
/-! statements -/
def oc (r : Option (Fl × En)) (k : En → Option (Fl × En)) : Option (Fl × En) := match r with
  | some (.nx, e1) => k e1
  | some (fl, e1) => some (fl, e1)
  | none => none
@[simp] theorem oc_nx (e1 : En) (k : En → Option (Fl × En)) : oc (some (.nx, e1)) k = k e1 := rfl
@[simp] theorem oc_rt (d : D) (e1 : En) (k : En → Option (Fl × En)) : oc (some (.rt d, e1)) k = some (.rt d, e1) := rfl
@[simp] theorem oc_rn (d : D) (e1 : En) (k : En → Option (Fl × En)) : oc (some (.rn d, e1)) k = some (.rn d, e1) := rfl
@[simp] theorem oc_bk (e1 : En) (k : En → Option (Fl × En)) : oc (some (.bk, e1)) k = some (.bk, e1) := rfl
@[simp] theorem oc_ct (e1 : En) (k : En → Option (Fl × En)) : oc (some (.ct, e1)) k = some (.ct, e1) := rfl
@[simp] theorem oc_none (k : En → Option (Fl × En)) : oc none k = none := rfl
@[simp] theorem ap_seqS (f g : ME Fl) (e : En) : seqS f g e = oc (f e) g := rfl
@[simp] theorem ap_ifS (c : ME Bool) (f g : ME Fl) (e : En) : ifS c f g e = (c e).bind fun p => if p.1 = true then f p.2 else g p.2 := by
  unfold ifS
  cases c e <;> rfl
@[simp] theorem ap_asgS (i : Nat) (e : En) : asgS i fa e = (fa e).map fun p => (.nx, p.2.set i (.v p.1)) := by
  unfold asgS
  cases fa e <;> rfl
@[simp] theorem ap_asgO (i : Nat) (e : En) : asgO i fs e = (fs e).map fun p => (.nx, p.2.set i (.o (.list p.1))) := by
  unfold asgO
  cases fs e <;> rfl
@[simp] theorem ap_drp (e : En) : drp fa e = (fa e).map fun p => (.nx, p.2) := by
  unfold drp
  cases fa e <;> rfl
@[simp] theorem ap_retS (e : En) : retS fa e = (fa e).map fun p => (.rt p.1, p.2) := by
  unfold retS
  cases fa e <;> rfl
@[simp] theorem ap_retN (e : En) : retN fs e = (fs e).map fun p => (.rn (.list p.1), p.2) := by
  unfold retN
  cases fs e <;> rfl
@[simp] theorem ap_nxS (e : En) : nxS e = some (.nx, e) := rfl
@[simp] theorem ap_mNil (e : En) : mNil e = some ([], e) := rfl
@[simp] theorem ap_mV (m : ME (List Sl)) (e : En) : mV fa m e = (fa e).bind fun p => (m p.2).map fun q => (.v p.1 :: q.1, q.2) := by
  unfold mV
  simp
  cases fa e with
  | none => rfl
  | some p => simp; cases m p.2 <;> rfl
@[simp] theorem ap_mO (m : ME (List Sl)) (e : En) : mO fs m e = (fs e).bind fun p => (m p.2).map fun q => (.o (.list p.1) :: q.1, q.2) := by
  unfold mO
  simp
  cases fs e with
  | none => rfl
  | some p => simp; cases m p.2 <;> rfl
@[simp] theorem setAll_nil (ss : List Sl) (e : En) : setAll [] ss e = e := by cases ss <;> rfl
@[simp] theorem setAll_cons (i : Nat) (is : List Nat) (s : Sl) (ss : List Sl) (e : En) : setAll (i :: is) (s :: ss) e = setAll is ss (e.set i s) := rfl
@[simp] theorem ap_parS (is : List Nat) (m : ME (List Sl)) (e : En) : parS is m e = (m e).bind fun p => if p.1.length = is.length then some (.nx, setAll is p.1 p.2) else none := by
  unfold parS
  cases m e <;> rfl
@[simp] theorem ap_unS (g : D → En → Option En) (e : En) : unS g fa e = (fa e).bind fun p => (g p.1 p.2).map fun e2 => (.nx, e2) := by
  unfold unS
  cases fa e with
  | none => rfl
  | some p => simp; cases g p.1 p.2 <;> rfl
@[simp] theorem ap_gNm (i : Nat) (d : D) (e : En) : gNm i d e = some (e.set i (.v d)) := rfl
@[simp] theorem ap_gNil (e : En) : gNilS [] e = some e := rfl
@[simp] theorem ap_gCons (g : D → En → Option En) (r : List D → En → Option En) (d : D) (ds : List D) (e : En) : gConsS g r (d :: ds) e = (g d e).bind (r ds) := rfl
@[simp] theorem ap_gTup (k : Nat) (r : List D → En → Option En) (ds : List D) (e : En) : gTupS k r (.tuple ds) e = if ds.length = k then r ds e else none := rfl
@[simp] theorem ap_augS (g : D → D → Option D) (i : Nat) (e : En) : augS g i fa e = (gv e i).bind fun d1 => (fa e).bind fun p => (g d1 p.1).map fun d => (.nx, p.2.set i (.v d)) := by
  unfold augS
  cases h : gv e i with
  | some d =>
    rw [(gv_eq e i d).mp h]
    simp
    cases fa e with
    | none => rfl
    | some p => simp; cases g d p.1 <;> rfl
  | none =>
    split
    · rename_i d hd
      rw [(gv_eq e i d).mpr hd] at h
      cases h
    · rfl
theorem go_none {e : En} {i : Nat} (h : go e i = none) (d : D) : e[i]? ≠ some (.o d) := fun z => by
  rw [(go_eq e i d).mpr z] at h; cases h
@[simp] theorem ap_ixO (i : Nat) (e : En) : ixO i fa e = (go e i).bind fun _ => (fa e).bind fun p => (asI p.1).bind fun j => (go p.2 i).bind fun l => match l with
    | .list ds => (atI ds j).map fun d => (d, p.2)
    | _ => none := by
  unfold ixO
  cases h : go e i with
  | none =>
    split
    · rename_i d hd
      exact absurd hd (go_none h d)
    · rfl
  | some d0 =>
    rw [(go_eq e i d0).mp h]
    simp
    cases fa e with
    | none => rfl
    | some p =>
      obtain ⟨p1, p2⟩ := p
      cases p1 with
      | int j =>
        simp
        cases h2 : go p2 i with
        | none =>
          split
          · rename_i ds hd
            exact absurd hd (go_none h2 _)
          · rfl
        | some l =>
          rw [(go_eq p2 i l).mp h2]
          cases l with
          | list ds => simp; cases atI ds j <;> rfl
          | none => rfl
          | bool => rfl
          | int => rfl
          | str => rfl
          | tuple => rfl
          | dict => rfl
      | none => rfl
      | bool => rfl
      | str => rfl
      | tuple => rfl
      | list => rfl
      | dict => rfl
@[simp] theorem ap_lenO (i : Nat) (e : En) : lenO i e = (go e i).bind fun l => match l with
    | .list ds => some (.int ds.length, e)
    | _ => none := by
  unfold lenO
  cases h : go e i with
  | none =>
    split
    · rename_i ds hd
      exact absurd hd (go_none h _)
    · rfl
  | some l =>
    rw [(go_eq e i l).mp h]
    cases l <;> rfl
@[simp] theorem ap_setO (i : Nat) (e : En) : setO i fb fa e = (fa e).bind fun p => (go p.2 i).bind fun _ => (fb p.2).bind fun q => (asI q.1).bind fun k => (go q.2 i).bind fun l => match l with
    | .list ds => (ixN ds.length k).map fun j => (.nx, q.2.set i (.o (.list (ds.set j p.1))))
    | _ => none := by
  unfold setO
  cases fa e with
  | none => rfl
  | some p =>
    obtain ⟨d, e1⟩ := p
    simp
    cases h : go e1 i with
    | none =>
      split
      · rename_i d hd
        exact absurd hd (go_none h d)
      · rfl
    | some d0 =>
      rw [(go_eq e1 i d0).mp h]
      simp
      cases fb e1 with
      | none => rfl
      | some q =>
        obtain ⟨q1, q2⟩ := q
        cases q1 with
        | int k =>
          simp
          cases h2 : go q2 i with
          | none =>
            split
            · rename_i ds hd
              exact absurd hd (go_none h2 _)
            · rfl
          | some l =>
            rw [(go_eq q2 i l).mp h2]
            cases l with
            | list ds => simp; cases ixN ds.length k <;> rfl
            | none => rfl
            | bool => rfl
            | int => rfl
            | str => rfl
            | tuple => rfl
            | dict => rfl
        | none => rfl
        | bool => rfl
        | str => rfl
        | tuple => rfl
        | list => rfl
        | dict => rfl
@[simp] theorem ap_clI (np : Nat) (g : D → List D → Option (D × D)) (i : Nat) (e : En) : clI np g i fs e = (go e i).bind fun _ => (fs e).bind fun p => (go p.2 i).bind fun d0 => if p.1.length = np then (g d0 p.1).map fun r => (r.1, p.2.set i (.o r.2)) else none := by
  unfold clI
  cases h : go e i with
  | none =>
    split
    · rename_i d hd
      exact absurd hd (go_none h d)
    · rfl
  | some d0 =>
    rw [(go_eq e i d0).mp h]
    simp
    cases fs e with
    | none => rfl
    | some p =>
      obtain ⟨p1, p2⟩ := p
      simp
      cases h2 : go p2 i with
      | none =>
        split
        · rename_i ds hd
          exact absurd hd (go_none h2 _)
        · rfl
      | some l =>
        rw [(go_eq p2 i l).mp h2]
        simp
        split
        · cases g l p1 with
          | none => rfl
          | some r => rfl
        · rfl
/-! data -/
@[simp] theorem add_i (i j : Int) : addA (.int i) (.int j) = some (.int (i + j)) := rfl
@[simp] theorem sub_i (i j : Int) : subD (.int i) (.int j) = some (.int (i - j)) := rfl
theorem mul_i {i j : Int} (h : (sm i || sm j) = true) : mulA (.int i) (.int j) = some (.int (i * j)) := if_pos h
theorem fdiv_i {i j : Int} (h : 0 < j ∧ j < 1073741824) : fdivD (.int i) (.int j) = some (.int (i / j)) := if_pos h
theorem mod_i {i j : Int} (h : 0 < j) : modD (.int i) (.int j) = some (.int (i % j)) := if_pos h
@[simp] theorem lt_i (i j : Int) : ltD (.int i) (.int j) = some (.bool (decide (i < j))) := rfl
@[simp] theorem le_i (i j : Int) : leD (.int i) (.int j) = some (.bool (decide (i ≤ j))) := rfl
@[simp] theorem gt_i (i j : Int) : gtD (.int i) (.int j) = some (.bool (decide (j < i))) := rfl
@[simp] theorem ge_i (i j : Int) : geD (.int i) (.int j) = some (.bool (decide (j ≤ i))) := rfl
theorem shaped_i (i : Int) : SeqAt.shaped (.int i) = true := by simp [SeqAt.shaped, PyData.canLay0, PyData.depth]
theorem shaped_b (i : Bool) : SeqAt.shaped (.bool i) = true := by simp [SeqAt.shaped, PyData.canLay0, PyData.depth]
@[simp] theorem eq_i (i j : Int) : eqD (.int i) (.int j) = some (.bool (i == j)) := by simp [eqD, shaped_i, PyData.eqv]
@[simp] theorem ne_i (i j : Int) : neD (.int i) (.int j) = some (.bool (!(i == j))) := by simp [neD, shaped_i, PyData.eqv]
@[simp] theorem eq_s (i j : Str) : eqD (.str i) (.str j) = some (.bool (decide (i = j))) := rfl
@[simp] theorem ne_s (i j : Str) : neD (.str i) (.str j) = some (.bool (!decide (i = j))) := rfl
@[simp] theorem neg_i (i : Int) : negD (.int i) = some (.int (-i)) := rfl
@[simp] theorem int_i (i : Int) : intD [.int i] = some (.int i) := rfl
@[simp] theorem int_b (b : Bool) : intD [.bool b] = some (.int (if b then 1 else 0)) := rfl
@[simp] theorem len_l (ds : List D) : lenD [.list ds] = some (.int ds.length) := rfl
@[simp] theorem len_t (ds : List D) : lenD [.tuple ds] = some (.int ds.length) := rfl
@[simp] theorem abs_i (i : Int) : absD [.int i] = some (.int (if i < 0 then -i else i)) := rfl
@[simp] theorem addI_i (i j : Int) : addI (.int i) (.int j) = some (.int (i + j)) := rfl
@[simp] theorem min2_i (i j : Int) : min2D [.int i, .int j] = some (.int (if j < i then j else i)) := rfl
@[simp] theorem max2_i (i j : Int) : max2D [.int i, .int j] = some (.int (if j > i then j else i)) := rfl
@[simp] theorem isi_ap (g : D → Bool) (d : D) : isiD g d = some (.bool (g d)) := rfl
@[simp] theorem isInt_i (i : Int) : DL.isInt (.int i) = true := rfl
@[simp] theorem isInt_b (i : Bool) : DL.isInt (.bool i) = true := rfl
@[simp] theorem isBool_i (i : Int) : isBool (.int i) = false := rfl
@[simp] theorem isTup_t (i : List D) : isTup (.tuple i) = true := rfl
@[simp] theorem isTup_l (i : List D) : isTup (.list i) = false := rfl
@[simp] theorem isTup_n : isTup .none = false := rfl
@[simp] theorem isStr_s (i : Str) : isStr (.str i) = true := rfl
@[simp] theorem isStr_n : isStr .none = false := rfl
end
end DL

/-! V0: loops and calls, evaluated -/
namespace DL
open PySem PySem.Spec PyProof.Rows L2
theorem set_self {e : En} {k : Nat} {s : Sl} (h : e[k]? = some s) : e.set k s = e := by
  apply List.ext_getElem?
  intro i
  rw [List.getElem?_set]
  split
  · rename_i q
    subst q
    split
    · exact h.symm
    · rename_i z
      rw [List.getElem?_eq_none (by omega)] at h
      cases h
  · rfl
theorem lcF_map {k : Nat} {e : En} {f : ME D} {y : D → D} (hk : e[k]? = some .u) : ∀ (ds acc : List D), (∀ d ∈ ds, f (e.set k (.v d)) = some (y d, e.set k (.v d))) → acc.length + ds.length ≤ 100000 → lcF (gNm k) (rt true) f [k] acc ds e = some (acc ++ ds.map y, e)
  | [], acc, _, _ => by simp [lcF]
  | d :: ds, acc, h, hl => by
    have w : wipeE e [k] = e := set_self hk
    have w2 : wipeE (e.set k (.v d)) [k] = e := by
      show (e.set k (.v d)).set k .u = e
      rw [List.set_set, set_self hk]
    show (match gNm k d (wipeE e [k]) with
      | none => none
      | some e1 => match rt true e1 with
        | none => none
        | some (false, e2) => lcF (gNm k) (rt true) f [k] acc ds (wipeE e2 [k])
        | some (true, e2) => match f e2 with
          | none => none
          | some (y, e3) => if acc.length < 100000 then lcF (gNm k) (rt true) f [k] (acc ++ [y]) ds (wipeE e3 [k]) else none) = _
    rw [w]
    show (match f (e.set k (.v d)) with
          | none => none
          | some (y, e3) => if acc.length < 100000 then lcF (gNm k) (rt true) f [k] (acc ++ [y]) ds (wipeE e3 [k]) else none) = _
    rw [h d List.mem_cons_self]
    show (if acc.length < 100000 then lcF (gNm k) (rt true) f [k] (acc ++ [y d]) ds (wipeE (e.set k (.v d)) [k]) else none) = _
    rw [List.length_cons] at hl
    rw [if_pos (by omega), w2, lcF_map hk ds (acc ++ [y d]) (fun d hd => h d (List.mem_cons_of_mem _ hd)) (by rw [List.length_append, List.length_singleton]; omega)]
    simp
theorem lc_map {k : Nat} {e : En} {fi : ME (List D)} {f : ME D} {ds : List D} {y : D → D} (hfi : fi e = some (ds, e)) (hk : e[k]? = some .u) (hl : ds.length ≤ 100000) (h : ∀ d ∈ ds, f (e.set k (.v d)) = some (y d, e.set k (.v d))) :
    lcS fi (gNm k) (rt true) f [k] e = some (ds.map y, e) := by
  unfold lcS
  rw [hfi]
  have w : wipeE e [k] = e := set_self hk
  have o : okWipe e [k] = true := by
    show (List.all [k] fun i => match e[i]? with
      | some (.o _) => false
      | _ => true) = true
    simp [hk]
  have b : backE e [k] e = e := by
    show (match e[k]? with | some s => e.set k s | none => e) = e
    rw [hk]
    exact set_self hk
  show (if okWipe e [k] = true then match lcF (gNm k) (rt true) f [k] [] ds (wipeE e [k]) with
      | some (ys, e2) => some (ys, backE e [k] e2)
      | none => none
    else none) = _
  rw [if_pos o, w, lcF_map hk ds [] h (by rw [List.length_nil]; omega)]
  show some ([] ++ ds.map y, backE e [k] e) = _
  rw [b, List.nil_append]
theorem wh_no {c : ME Bool} {f : ME Fl} {m : Nat} {e e1 : En} (h : c e = some (false, e1)) : whF c f (m + 1) e = some (.nx, e1) := by
  unfold whF
  rw [h]
theorem wh_go {c : ME Bool} {f : ME Fl} {m : Nat} {e e1 e2 : En} (h : c e = some (true, e1)) (h2 : f e1 = some (.nx, e2)) : whF c f (m + 1) e = whF c f m e2 := by
  conv => lhs; unfold whF
  rw [h]
  show (match f e1 with
      | some (.nx, e2) => whF c f m e2
      | some (.ct, e2) => whF c f m e2
      | some (.bk, e2) => some (.nx, e2)
      | some (.rt d, e2) => some (.rt d, e2)
      | some (.rn d, e2) => some (.rn d, e2)
      | none => none) = _
  rw [h2]
theorem wh_rt {c : ME Bool} {f : ME Fl} {m : Nat} {e e1 e2 : En} {d : D} (h : c e = some (true, e1)) (h2 : f e1 = some (.rt d, e2)) : whF c f (m + 1) e = some (.rt d, e2) := by
  conv => lhs; unfold whF
  rw [h]
  show (match f e1 with
      | some (.nx, e2) => whF c f m e2
      | some (.ct, e2) => whF c f m e2
      | some (.bk, e2) => some (.nx, e2)
      | some (.rt d, e2) => some (.rt d, e2)
      | some (.rn d, e2) => some (.rn d, e2)
      | none => none) = _
  rw [h2]
theorem runP_rt {m : Nat} {fb : ME Fl} {ds : List D} {d : D} {e' : En} (h : fb (envP m ds) = some (.rt d, e')) : runP m fb ds = some d := by
  unfold runP; rw [h]
theorem runP_nx {m : Nat} {fb : ME Fl} {ds : List D} {e' : En} (h : fb (envP m ds) = some (.nx, e')) : runP m fb ds = some .none := by
  unfold runP; rw [h]
theorem runP_rn {m : Nat} {fb : ME Fl} {ds d : List D} {e' : En} (h : fb (envP m ds) = some (.rn (.list d), e')) : runP m fb ds = some (.list d) := by
  unfold runP; rw [h]
theorem runN_rn {m : Nat} {fb : ME Fl} {ds d : List D} {e' : En} (h : fb (envP m ds) = some (.rn (.list d), e')) : runN m fb ds = some d := by
  unfold runN; rw [h]
theorem runI_rt {m : Nat} {fb : ME Fl} {d0 : D} {ds : List D} {d d1 : D} {e' : En} (h : fb (.o d0 :: envP (m - 1) ds) = some (.rt d, .o d1 :: e')) : runI m fb d0 ds = some (d, d1) := by
  unfold runI; rw [h]; rfl
theorem runI_nx {m : Nat} {fb : ME Fl} {d0 : D} {ds : List D} {d1 : D} {e' : En} (h : fb (.o d0 :: envP (m - 1) ds) = some (.nx, .o d1 :: e')) : runI m fb d0 ds = some (.none, d1) := by
  unfold runI; rw [h]; rfl
def outP (r : Option (Fl × En)) : Option D := match r with
  | some (.rt d, _) => some d
  | some (.nx, _) => some .none
  | some (.rn (.list d), _) => some (.list d)
  | _ => none
theorem runP_d (m : Nat) (fb : ME Fl) (ds : List D) : runP m fb ds = outP (fb (envP m ds)) := rfl
@[simp] theorem outP_rt (d : D) (e : En) : outP (some (.rt d, e)) = some d := rfl
@[simp] theorem outP_nx (e : En) : outP (some (.nx, e)) = some .none := rfl
@[simp] theorem outP_rn (d : List D) (e : En) : outP (some (.rn (.list d), e)) = some (.list d) := rfl
@[simp] theorem outP_no : outP none = none := rfl
def outI (r : Option (Fl × En)) : Option (D × D) := match r with
  | some (fl, e') => match List.head? e' with
    | some (Sl.o d1) => match fl with
      | .rt d => some (d, d1)
      | .nx => some (.none, d1)
      | _ => none
    | _ => none
  | none => none
theorem runI_d (m : Nat) (fb : ME Fl) (d0 : D) (ds : List D) : runI m fb d0 ds = outI (fb (.o d0 :: envP (m - 1) ds)) := rfl
@[simp] theorem outI_rt (d d1 : D) (e : En) : outI (some (.rt d, .o d1 :: e)) = some (d, d1) := rfl
@[simp] theorem outI_nx (d1 : D) (e : En) : outI (some (.nx, .o d1 :: e)) = some (.none, d1) := rfl
theorem foF_all {g : D → En → Option En} {f : ME Fl} {I : En → Prop} : ∀ (ds : List D) (e : En), I e → (∀ d ∈ ds, ∀ e, I e → ∃ e1 e2, g d e = some e1 ∧ f e1 = some (.nx, e2) ∧ I e2) → ∃ e', foF g f ds e = some (.nx, e') ∧ I e'
  | [], e, h, _ => ⟨e, rfl, h⟩
  | d :: ds, e, h, H => by
    obtain ⟨e1, e2, h1, h2, h3⟩ := H d List.mem_cons_self e h
    obtain ⟨e', q, r⟩ := foF_all ds e2 h3 fun d hd => H d (List.mem_cons_of_mem _ hd)
    refine ⟨e', ?_, r⟩
    show (match g d e with
    | none => none
    | some e1 => match f e1 with
      | some (.nx, e2) => foF g f ds e2
      | some (.ct, e2) => foF g f ds e2
      | some (.bk, e2) => some (.nx, e2)
      | some (.rt d, e2) => some (.rt d, e2)
      | some (.rn d, e2) => some (.rn d, e2)
      | none => none) = _
    rw [h1]
    show (match f e1 with
      | some (.nx, e2) => foF g f ds e2
      | some (.ct, e2) => foF g f ds e2
      | some (.bk, e2) => some (.nx, e2)
      | some (.rt d, e2) => some (.rt d, e2)
      | some (.rn d, e2) => some (.rn d, e2)
      | none => none) = _
    rw [h2]
    exact q
theorem at_nat {α : Type} (xs : List α) (i : Nat) : atI xs (i : Int) = xs[i]? := by
  unfold atI ixN
  rw [if_pos (by omega)]
  split
  · rfl
  · rename_i h
    rw [List.getElem?_eq_none (by omega)]
    rfl
theorem at_in {α : Type} {xs : List α} {i : Int} (h0 : 0 ≤ i) (h1 : i < xs.length) : ∃ x, x ∈ xs ∧ atI xs i = some x := by
  obtain ⟨n, rfl⟩ : ∃ n : Nat, i = n := ⟨i.toNat, by omega⟩
  rw [at_nat]
  exact ⟨xs[n]'(by omega), List.getElem_mem _, List.getElem?_eq_getElem (by omega)⟩
@[simp] theorem ix_l (ds : List D) (i : Int) : ixD (.list ds) (.int i) = atI ds i := rfl
@[simp] theorem ix_t (ds : List D) (i : Int) : ixD (.tuple ds) (.int i) = atI ds i := rfl
@[simp] theorem at_0 {α : Type} (a : α) (xs : List α) : atI (a :: xs) 0 = some a := at_nat (a :: xs) 0
@[simp] theorem at_1 {α : Type} (a b : α) (xs : List α) : atI (a :: b :: xs) 1 = some b := at_nat (a :: b :: xs) 1
@[simp] theorem at_2 {α : Type} (a b c : α) (xs : List α) : atI (a :: b :: c :: xs) 2 = some c := at_nat (a :: b :: c :: xs) 2
@[simp] theorem at_3 {α : Type} (a b c d : α) (xs : List α) : atI (a :: b :: c :: d :: xs) 3 = some d := at_nat (a :: b :: c :: d :: xs) 3
@[simp] theorem at_4 {α : Type} (a b c d f : α) (xs : List α) : atI (a :: b :: c :: d :: f :: xs) 4 = some f := at_nat (a :: b :: c :: d :: f :: xs) 4
theorem ixN_in {n : Nat} {i : Nat} (h : i < n) : ixN n (i : Int) = some i := by
  unfold ixN
  rw [if_pos (by omega), if_pos (by omega)]
  rfl
theorem mem_upTo {d : D} {lo : Int} {k : Nat} (h : d ∈ DL.upTo lo k) : ∃ p, d = .int p ∧ lo ≤ p ∧ p < lo + k := by
  unfold DL.upTo at h
  obtain ⟨i, hi, e⟩ := List.mem_map.mp h
  rw [List.mem_range] at hi
  exact ⟨lo + i, e.symm, by omega, by omega⟩
theorem len_upTo (lo : Int) (k : Nat) : (DL.upTo lo k).length = k := by
  unfold DL.upTo
  rw [List.length_map, List.length_range]
/-! the hand -/
def HandD (cs : List Int) (i l m n : Int) : D := .list [.list (cs.map .int), .int i, .int l, .int m, .int n]
def HOK (d : D) : Prop := ∃ cs i l m n, d = HandD cs i l m n ∧ 0 ≤ i ∧ 0 ≤ l
end DL

/-! DW: what repr can show -/
namespace DL
open PySem PySem.Spec PyProof.Rows L2
structure Oks (d : D) (dp w : Nat) : Prop where
  sh : d.showable = true
  nd : d.hasDict = false
  ls : d.leavesShort 61 = true
  dp : d.depth ≤ dp
  wt : d.weight ≤ w
structure OksA (ds : List D) (dp w : Nat) : Prop where
  sh : PyData.showableAll ds = true
  nd : PyData.hasDictAll ds = false
  ls : PyData.leavesShortAll 61 ds = true
  dp : PyData.depthAll ds ≤ dp
  wt : PyData.weightAll ds ≤ w
theorem Oks.up {d : D} {a b w v : Nat} (h : Oks d a w) (h1 : a ≤ b) (h2 : w ≤ v) : Oks d b v := ⟨h.sh, h.nd, h.ls, Nat.le_trans h.dp h1, Nat.le_trans h.wt h2⟩
theorem Oks.non (a w : Nat) : Oks .none a w := ⟨by simp [PyData.showable], by simp [PyData.hasDict], by simp [PyData.leavesShort], by simp [PyData.depth], by simp [PyData.weight]⟩
theorem Oks.bool (b : Bool) (a w : Nat) : Oks (.bool b) a w := ⟨by simp [PyData.showable], by simp [PyData.hasDict], by simp [PyData.leavesShort], by simp [PyData.depth], by simp [PyData.weight]⟩
theorem pow60 : 10 ^ 60 ≤ 2 ^ 200 := by decide
theorem log_small {n : Nat} (h : n < 10 ^ 60) : n.log2 < 200 := by
  by_cases h0 : n = 0
  · subst h0; decide
  · exact (Nat.log2_lt h0).mpr (Nat.lt_of_lt_of_le h pow60)
def tiny (i : Int) : Prop := i.natAbs < 10 ^ 60
theorem Oks.int {i : Int} (h : tiny i) (a : Nat) : Oks (.int i) a 200 := by
  have hl := log_small h
  have ht := int_text_length_le10 (k := 60) (by decide) h
  refine ⟨?_, by simp [PyData.hasDict], ?_, by simp [PyData.depth], ?_⟩
  · have : i.natAbs.log2 < 1920 := by omega
    simp [PyData.showable, this]
  · have e : (PyData.shown (.int i)).length ≤ 61 := by
      simp only [PyData.shown]
      show (Str.ofString (toString i)).length ≤ 61
      rw [PySem.ofString_length]
      exact ht
    simp only [PyData.leavesShort, decide_eq_true_eq]
    exact e
  · simp only [PyData.weight]
    split
    · omega
    · omega
theorem Oks.str {x : Str} (h : ∀ c ∈ x.cps.toList, c < 16 ^ 8) {w : Nat} (hw : x.length ≤ w) (a : Nat) : Oks (.str x) a w :=
  ⟨by simp [PyData.showable], by simp [PyData.hasDict], by simp only [PyData.leavesShort, List.all_eq_true, decide_eq_true_eq]; exact h, by simp [PyData.depth], by simp only [PyData.weight]; exact hw⟩
theorem OksA.all {a w : Nat} : ∀ {ds : List D}, (∀ d ∈ ds, Oks d a w) → OksA ds a (ds.length * (w + 1))
  | [], _ => ⟨by simp [PyData.showableAll], by simp [PyData.hasDictAll], by simp [PyData.leavesShortAll], by simp [PyData.depthAll], by simp [PyData.weightAll]⟩
  | d :: ds, h => by
    have h1 := h d List.mem_cons_self
    have h2 := OksA.all fun x hx => h x (List.mem_cons_of_mem _ hx)
    refine ⟨by simp [PyData.showableAll, h1.sh, h2.sh], by simp [PyData.hasDictAll, h1.nd, h2.nd], by simp [PyData.leavesShortAll, h1.ls, h2.ls], ?_, ?_⟩
    · have a1 := h1.dp
      have a2 := h2.dp
      simp only [PyData.depthAll]
      omega
    · have a1 := h1.wt
      have a2 := h2.wt
      simp only [PyData.weightAll, List.length_cons, Nat.add_mul, Nat.one_mul]
      simp only [Nat.add_mul, Nat.one_mul, Nat.mul_add, Nat.mul_one] at *
      omega
theorem Oks.list {ds : List D} {a w : Nat} (h : ∀ d ∈ ds, Oks d a w) : Oks (.list ds) (a + 1) (ds.length * (w + 1)) := by
  have h2 := OksA.all h
  exact ⟨by simp [PyData.showable, h2.sh], by simp [PyData.hasDict, h2.nd], by simp [PyData.leavesShort, h2.ls], by simp only [PyData.depth]; have := h2.dp; omega, by simp only [PyData.weight]; exact h2.wt⟩
theorem Oks.tuple {ds : List D} {a w : Nat} (h : ∀ d ∈ ds, Oks d a w) : Oks (.tuple ds) (a + 1) (ds.length * (w + 1)) := by
  have h2 := OksA.all h
  exact ⟨by simp [PyData.showable, h2.sh], by simp [PyData.hasDict, h2.nd], by simp [PyData.leavesShort, h2.ls], by simp only [PyData.depth]; have := h2.dp; omega, by simp only [PyData.weight]; exact h2.wt⟩
theorem Oks.ok {d : D} {a w : Nat} (h : Oks d a w) (ha : a ≤ 60) (hw : w ≤ 15000) : okShow d = true := by
  have h1 := PyData.shown_le 61 (by decide) d h.ls
  have h2 := h.dp
  have h3 := h.wt
  unfold okShow
  have e1 : decide (d.depth ≤ 60) = true := by simp; omega
  have e2 : decide (d.shown.length ≤ 1000000) = true := by
    rw [decide_eq_true_eq]
    omega
  rw [h.sh, h.nd, e1, e2]
  rfl
theorem tiny_of {i : Int} (h1 : -1000000000000000000000000000000000000000000000000 < i) (h2 : i < 1000000000000000000000000000000000000000000000000) : tiny i := by
  unfold tiny
  have : i.natAbs < 1000000000000000000000000000000000000000000000000 := by omega
  exact Nat.lt_trans this (by decide)
theorem ok_ints {ns : List Int} (h : ∀ n ∈ ns, tiny n) (hl : ns.length ≤ 70) : okShow (.list (ns.map .int)) = true := by
  have h1 : ∀ d ∈ ns.map PyData.int, Oks d 0 200 := fun d hd => by
    obtain ⟨n, hn, rfl⟩ := List.mem_map.mp hd
    exact Oks.int (h n hn) 0
  have := Oks.list h1
  rw [List.length_map] at this
  exact this.ok (by omega) (by omega)
end DL

namespace M8
def S : Nat → (Nat → Nat) → Nat
  | 0, _ => 0
  | n + 1, f => S n f + f n
theorem S_congr {f g : Nat → Nat} : ∀ {n : Nat}, (∀ i, i < n → f i = g i) → S n f = S n g
  | 0, _ => rfl
  | n + 1, h => by
    show S n f + f n = S n g + g n
    rw [S_congr fun i hi => h i (by omega), h n (by omega)]
theorem S_add (f g : Nat → Nat) : ∀ n, S n (fun i => f i + g i) = S n f + S n g
  | 0 => rfl
  | n + 1 => by
    show S n (fun i => f i + g i) + (f n + g n) = S n f + f n + (S n g + g n)
    rw [S_add f g n]; omega
theorem S_zero : ∀ n, S n (fun _ => 0) = 0
  | 0 => rfl
  | n + 1 => by show S n (fun _ => 0) + 0 = 0; rw [S_zero n]
theorem S_one : ∀ n, S n (fun _ => 1) = n
  | 0 => rfl
  | n + 1 => by show S n (fun _ => 1) + 1 = n + 1; rw [S_one n]
theorem S_mul (k : Nat) (f : Nat → Nat) : ∀ n, S n (fun i => k * f i) = k * S n f
  | 0 => rfl
  | n + 1 => by
    show S n (fun i => k * f i) + k * f n = k * (S n f + f n)
    rw [S_mul k f n, Nat.mul_add]
theorem S_const (k n : Nat) : S n (fun _ => k) = k * n := by
  have := S_mul k (fun _ => 1) n
  rw [S_one] at this
  rw [← this]
  exact S_congr fun i _ => (Nat.mul_one k).symm
theorem S_comm (f : Nat → Nat → Nat) (n : Nat) : ∀ m, S m (fun i => S n (f i)) = S n (fun j => S m (fun i => f i j))
  | 0 => (S_zero n).symm
  | m + 1 => by
    show S m (fun i => S n (f i)) + S n (f m) = S n (fun j => S m (fun i => f i j) + f m j)
    rw [S_add, S_comm f n m]
theorem S_head (f : Nat → Nat) : ∀ n, S (n + 1) f = f 0 + S n (fun i => f (i + 1))
  | 0 => by show 0 + f 0 = f 0 + 0; omega
  | n + 1 => by
    show S (n + 1) f + f (n + 1) = f 0 + (S n (fun i => f (i + 1)) + f (n + 1))
    rw [S_head f n]; omega
theorem S_rev (f : Nat → Nat) : ∀ n, S n (fun i => f (n - 1 - i)) = S n f
  | 0 => rfl
  | n + 1 => by
    rw [S_head]
    show f (n + 1 - 1 - 0) + S n (fun i => f (n + 1 - 1 - (i + 1))) = S n f + f n
    have : S n (fun i => f (n + 1 - 1 - (i + 1))) = S n (fun i => f (n - 1 - i)) := S_congr fun i hi => by
      congr 1; omega
    rw [this, S_rev f n]
    have : n + 1 - 1 - 0 = n := by omega
    rw [this]; omega
theorem S_append (f : Nat → Nat) (m : Nat) : ∀ n, S (m + n) f = S m f + S n (fun i => f (m + i))
  | 0 => by show S m f = S m f + 0; omega
  | n + 1 => by
    show S (m + n) f + f (m + n) = S m f + (S n (fun i => f (m + i)) + f (m + n))
    rw [S_append f m n]; omega
/-- how many multiples -/
theorem S_ind {a : Nat} (x : Nat) (ha : 0 < a) : ∀ n, S n (fun i => if a * (i + 1) ≤ x then 1 else 0) = min n (x / a)
  | 0 => (Nat.zero_min _).symm
  | n + 1 => by
    show S n _ + (if a * (n + 1) ≤ x then 1 else 0) = _
    rw [S_ind x ha n]
    have key : a * (n + 1) ≤ x ↔ n + 1 ≤ x / a := by rw [Nat.le_div_iff_mul_le ha, Nat.mul_comm]
    by_cases h : n + 1 ≤ x / a
    · rw [if_pos (key.mpr h)]; omega
    · rw [if_neg (fun z => h (key.mp z))]; omega
theorem tri2 : ∀ m, 2 * S m (fun n => n) = m * (m - 1)
  | 0 => rfl
  | m + 1 => by
    show 2 * (S m (fun n => n) + m) = (m + 1) * m
    have := tri2 m
    cases m with
    | zero => rfl
    | succ k =>
      have e : (k + 1 + 1) * (k + 1) = (k + 1) * (k + 1 - 1) + 2 * (k + 1) := by
        rw [Nat.add_sub_cancel, Nat.add_mul, Nat.mul_comm (k + 1) k, Nat.add_mul]
        omega
      rw [e, ← this]
      omega
theorem tri (m : Nat) : S m (fun n => n) = m * (m - 1) / 2 := by
  have := tri2 m
  omega
def bs (m a b c : Nat) : Nat := S m fun n => (a * n + c) / b
theorem split_div (a b c n : Nat) (hb : 0 < b) : (a * n + c) / b = a / b * n + c / b + (a % b * n + c % b) / b := by
  have h1 := Nat.div_add_mod a b
  have h2 := Nat.div_add_mod c b
  have e : a * n + c = b * (a / b * n + c / b) + (a % b * n + c % b) := by
    have e1 : a * n = b * (a / b) * n + a % b * n := by rw [← Nat.add_mul, h1]
    rw [Nat.mul_add, e1, Nat.mul_assoc]
    omega
  rw [e, Nat.mul_add_div hb]
theorem bs_low (m a b c : Nat) (hb : 0 < b) : bs m a b c = a / b * (m * (m - 1) / 2) + c / b * m + bs m (a % b) b (c % b) := by
  unfold bs
  rw [S_congr fun n _ => split_div a b c n hb, S_add, S_add, S_mul, S_const, tri]
theorem bs_swap (m a b c : Nat) (ha : 0 < a) (hb : 0 < b) (hc : c < b) : bs m a b c = bs ((a * m + c) / b) b a ((a * m + c) % b) := by
  generalize hL : a * m + c = L
  generalize hK : L / b = K
  have hKb : b * K + L % b = L := by rw [← hK]; exact Nat.div_add_mod L b
  have s1 : ∀ n, n < m → (a * n + c) / b = S K (fun j => if b * (j + 1) ≤ a * n + c then 1 else 0) := fun n hn => by
    rw [S_ind _ hb]
    have : a * n ≤ a * m := Nat.mul_le_mul_left a (by omega)
    have : (a * n + c) / b ≤ K := by rw [← hK]; exact Nat.div_le_div_right (by omega)
    omega
  have s3 : ∀ j, j < K → S m (fun n => if b * (j + 1) ≤ a * n + c then 1 else 0) = (L - b * (j + 1)) / a := fun j hj => by
    have hle : b * (j + 1) ≤ b * K := Nat.mul_le_mul_left b (by omega)
    have hb1 : b ≤ b * (j + 1) := Nat.le_mul_of_pos_right b (by omega)
    rw [← S_rev]
    have : S m (fun i => if b * (j + 1) ≤ a * (m - 1 - i) + c then 1 else 0) = S m (fun i => if a * (i + 1) ≤ L - b * (j + 1) then 1 else 0) := S_congr fun i hi => by
      have e : a * m = a * (i + 1) + a * (m - 1 - i) := by rw [← Nat.mul_add]; congr 1; omega
      by_cases h : a * (i + 1) ≤ L - b * (j + 1)
      · rw [if_pos h, if_pos (by omega)]
      · rw [if_neg h, if_neg (by omega)]
    rw [this, S_ind _ ha]
    have : (L - b * (j + 1)) / a ≤ m := by
      have h1 : L - b * (j + 1) ≤ a * m := by omega
      have h2 := Nat.div_le_div_right (c := a) h1
      rwa [Nat.mul_div_cancel_left m ha] at h2
    omega
  unfold bs
  rw [S_congr s1, S_comm, S_congr s3, ← S_rev]
  refine S_congr fun j hj => ?_
  congr 1
  have e : b * K = b * (K - 1 - j + 1) + b * j := by rw [← Nat.mul_add]; congr 1; omega
  omega
theorem bs_small (m a b c : Nat) (h : a * m + c < b) : bs m a b c = 0 := by
  unfold bs
  rw [← S_zero m]
  refine S_congr fun n hn => Nat.div_eq_of_lt ?_
  have : a * n ≤ a * m := Nat.mul_le_mul_left a (by omega)
  omega
theorem bs_add (m a b c k : Nat) (hb : 0 < b) : bs m (a + k * b) b c = bs m a b c + k * (m * (m - 1) / 2) := by
  unfold bs
  have : ∀ n, n < m → ((a + k * b) * n + c) / b = (a * n + c) / b + k * n := fun n _ => by
    have e : (a + k * b) * n + c = a * n + c + b * (k * n) := by
      rw [Nat.add_mul, Nat.mul_comm k b, Nat.mul_assoc]; omega
    rw [e, Nat.add_mul_div_left _ _ hb]
  rw [S_congr this, S_add, S_mul, tri]
theorem bs_shift (m a b c k : Nat) (hb : 0 < b) : bs m a b (c + k * b) = bs m a b c + k * m := by
  unfold bs
  have : ∀ n, n < m → (a * n + (c + k * b)) / b = (a * n + c) / b + k := fun n _ => by
    have e : a * n + (c + k * b) = a * n + c + b * k := by rw [Nat.mul_comm k b]; omega
    rw [e, Nat.add_mul_div_left _ _ hb]
  rw [S_congr this, S_add, S_const]
theorem bs_scale (m a b g : Nat) (hg : 0 < g) : bs m (g * a) (g * b) 0 = bs m a b 0 := by
  unfold bs
  refine S_congr fun n _ => ?_
  rw [Nat.add_zero, Nat.add_zero, Nat.mul_assoc, Nat.mul_div_mul_left _ _ hg]
/-- Hermite -/
theorem hermite (b : Nat) (hb : 0 < b) : ∀ x, S b (fun t => (x + t) / b) = x
  | 0 => by
    refine (S_congr fun t ht => ?_).trans (S_zero b)
    rw [Nat.zero_add]
    exact Nat.div_eq_of_lt ht
  | x + 1 => by
    have h := hermite b hb x
    have e1 : S (b + 1) (fun t => (x + t) / b) = x / b + S b (fun t => (x + 1 + t) / b) := by
      rw [S_head]
      congr 1
      exact S_congr fun t _ => by congr 1; omega
    have e2 : S (b + 1) (fun t => (x + t) / b) = S b (fun t => (x + t) / b) + (x + b) / b := rfl
    have e3 : (x + b) / b = x / b + 1 := by rw [Nat.add_div_right x hb]
    omega
theorem hermite_bs (m a b : Nat) (hb : 0 < b) : S b (fun t => bs m a b t) = a * (m * (m - 1) / 2) := by
  unfold bs
  rw [S_comm]
  rw [S_congr fun n _ => hermite b hb (a * n), S_mul, tri]

/-! gcd, multiples -/
/-- b divides a * n exactly if b / g divides n -/
theorem dvd_iff {a b n : Nat} (hb : 0 < b) : b ∣ a * n ↔ b / Nat.gcd a b ∣ n := by
  have hg : 0 < Nat.gcd a b := Nat.gcd_pos_of_pos_right a hb
  have h1 := Nat.div_mul_cancel (Nat.gcd_dvd_right a b)
  have h2 := Nat.div_mul_cancel (Nat.gcd_dvd_left a b)
  have hc : Nat.Coprime (a / Nat.gcd a b) (b / Nat.gcd a b) := Nat.coprime_div_gcd_div_gcd hg
  generalize Nat.gcd a b = g at *
  generalize b / g = b' at *
  generalize a / g = a' at *
  subst h1 h2
  constructor
  · intro h
    have h3 : g * b' ∣ g * (a' * n) := by
      have e : g * (a' * n) = a' * g * n := by rw [Nat.mul_comm a' g, Nat.mul_assoc]
      rw [e, Nat.mul_comm g b']
      exact h
    have h4 : b' ∣ a' * n := Nat.dvd_of_mul_dvd_mul_left hg h3
    exact (Nat.Coprime.symm hc).dvd_of_dvd_mul_left h4
  · rintro ⟨k, rfl⟩
    exact ⟨a' * k, by rw [Nat.mul_comm a' g, Nat.mul_assoc, Nat.mul_comm b' g, Nat.mul_assoc]; congr 1; rw [← Nat.mul_assoc, ← Nat.mul_assoc, Nat.mul_comm a' b']⟩
/-- how many of 1 .. w are multiples -/
theorem S_dvd {q : Nat} (hq : 0 < q) : ∀ w, S w (fun i => if q ∣ i + 1 then 1 else 0) = w / q
  | 0 => by rw [Nat.zero_div]; rfl
  | w + 1 => by
    show S w _ + (if q ∣ w + 1 then 1 else 0) = (w + 1) / q
    rw [S_dvd hq w, Nat.succ_div]
theorem rect (w a b : Nat) (ha : 0 < a) (hb : 0 < b) : bs (w + 1) a b 0 + bs (w * a / b + 1) b a 0 = w * (w * a / b) + w / (b / Nat.gcd a b) := by
  generalize hh : w * a / b = h
  have e1 : bs (w + 1) a b 0 = S w (fun i => S h (fun j => if b * (j + 1) ≤ a * (i + 1) then 1 else 0)) := by
    unfold bs
    rw [S_head, Nat.mul_zero, Nat.zero_add, Nat.zero_div, Nat.zero_add]
    refine S_congr fun i hi => ?_
    rw [S_ind _ hb, Nat.add_zero]
    have : a * (i + 1) / b ≤ h := by
      rw [← hh]
      refine Nat.div_le_div_right ?_
      rw [Nat.mul_comm w a]
      exact Nat.mul_le_mul_left a (by omega)
    omega
  have e2 : bs (h + 1) b a 0 = S w (fun i => S h (fun j => if a * (i + 1) ≤ b * (j + 1) then 1 else 0)) := by
    unfold bs
    rw [S_head, Nat.mul_zero, Nat.zero_add, Nat.zero_div, Nat.zero_add, S_comm]
    refine S_congr fun j hj => ?_
    rw [S_ind _ ha, Nat.add_zero]
    have h1 : b * (j + 1) ≤ w * a := by
      have h2 : j + 1 ≤ w * a / b := by omega
      rw [Nat.le_div_iff_mul_le hb] at h2
      rw [Nat.mul_comm b]
      exact h2
    have : b * (j + 1) / a ≤ w := by
      have h2 := Nat.div_le_div_right (c := a) h1
      rwa [Nat.mul_div_cancel w ha] at h2
    omega
  have e3 : ∀ i, i < w → S h (fun j => if a * (i + 1) = b * (j + 1) then 1 else 0) = if b / Nat.gcd a b ∣ i + 1 then 1 else 0 := fun i hi => by
    by_cases hd : b ∣ a * (i + 1)
    · rw [if_pos ((dvd_iff hb).mp hd)]
      obtain ⟨k, hk⟩ := hd
      have hk0 : 0 < k := by
        cases k with
        | zero =>
          rw [Nat.mul_zero] at hk
          have := Nat.mul_pos ha (show 0 < i + 1 by omega)
          omega
        | succ k => omega
      have hkh : k ≤ h := by
        rw [← hh, Nat.le_div_iff_mul_le hb, Nat.mul_comm k b, ← hk, Nat.mul_comm w a]
        exact Nat.mul_le_mul_left a (by omega)
      have : ∀ n, n ≤ h → S n (fun j => if a * (i + 1) = b * (j + 1) then 1 else 0) = if k ≤ n then 1 else 0 := by
        intro n
        induction n with
        | zero => intro _; rw [if_neg (by omega)]; rfl
        | succ n ih =>
          intro hn
          show S n _ + (if a * (i + 1) = b * (n + 1) then 1 else 0) = _
          rw [ih (by omega)]
          by_cases hkn : k = n + 1
          · have f1 : (if a * (i + 1) = b * (n + 1) then 1 else 0) = 1 := if_pos (by rw [hk, hkn])
            have f2 : (if k ≤ n then 1 else 0) = 0 := if_neg (by omega)
            rw [f1, f2, if_pos (by omega)]
          · have f1 : (if a * (i + 1) = b * (n + 1) then 1 else 0) = 0 := if_neg (fun z => hkn (Nat.eq_of_mul_eq_mul_left hb (hk.symm.trans z)))
            rw [f1]
            by_cases h3 : k ≤ n
            · rw [if_pos h3, if_pos (by omega)]
            · rw [if_neg h3, if_neg (by omega)]
      rw [this h (Nat.le_refl _), if_pos hkh]
    · rw [if_neg fun z => hd ((dvd_iff hb).mpr z)]
      exact (S_congr fun j _ => if_neg fun z => hd ⟨j + 1, z⟩).trans (S_zero h)
  have hq : 0 < b / Nat.gcd a b := Nat.div_pos (Nat.le_of_dvd hb (Nat.gcd_dvd_right a b)) (Nat.gcd_pos_of_pos_right a hb)
  rw [e1, e2, ← S_dvd hq w, ← S_congr e3, ← S_add]
  have e4 : w * h = S w (fun _ => S h (fun _ => 1)) := by
    rw [S_one, S_const, Nat.mul_comm]
  rw [e4, ← S_add]
  refine S_congr fun i _ => ?_
  rw [← S_add, ← S_add]
  refine S_congr fun j _ => ?_
  by_cases h1 : b * (j + 1) ≤ a * (i + 1) <;> by_cases h2 : a * (i + 1) ≤ b * (j + 1)
  · rw [if_pos h1, if_pos h2, if_pos (by omega)]
  · rw [if_pos h1, if_neg h2, if_neg (by omega)]
  · rw [if_neg h1, if_pos h2, if_neg (by omega)]
  · omega
/-- the closed bill -/
theorem closed (a b : Nat) (ha : 0 < a) (hb : 0 < b) : 2 * bs b a b 0 + b + a = a * b + Nat.gcd a b := by
  have hg := Nat.gcd_pos_of_pos_right a hb
  have hdb := Nat.div_mul_cancel (Nat.gcd_dvd_right a b)
  have hq : 0 < b / Nat.gcd a b := Nat.div_pos (Nat.le_of_dvd hb (Nat.gcd_dvd_right a b)) hg
  obtain ⟨w, rfl⟩ : ∃ w, b = w + 1 := ⟨b - 1, by omega⟩
  have e0 : bs (w + 1) a (w + 1) 0 = S w (fun i => a * (i + 1) / (w + 1)) := by
    unfold bs
    rw [S_head, Nat.mul_zero, Nat.zero_add, Nat.zero_div, Nat.zero_add]
    rfl
  have e1 : S w (fun i => a * (i + 1) / (w + 1)) + S w (fun i => a * (w - 1 - i + 1) / (w + 1)) + S w (fun _ => 1) = S w (fun _ => a) + S w (fun i => if (w + 1) / Nat.gcd a (w + 1) ∣ i + 1 then 1 else 0) := by
    rw [← S_add, ← S_add, ← S_add]
    refine S_congr fun i hi => ?_
    have e : a * (w + 1) = a * (i + 1) + a * (w - 1 - i + 1) := by rw [← Nat.mul_add]; congr 1; omega
    have key := dvd_iff (a := a) (n := i + 1) hb
    generalize hx : a * (i + 1) = x at *
    generalize hy : a * (w - 1 - i + 1) = y at *
    have hy2 : y = (w + 1) * a - x := by rw [Nat.mul_comm]; omega
    have dx := Nat.div_add_mod x (w + 1)
    have lx := Nat.mod_lt x hb
    have hle : x ≤ (w + 1) * a := by rw [Nat.mul_comm]; omega
    have hqa : x / (w + 1) ≤ a := by
      have := Nat.div_le_div_right (c := w + 1) hle
      rwa [Nat.mul_div_cancel_left a hb] at this
    by_cases hd : w + 1 ∣ x
    · rw [if_pos (key.mp hd)]
      have hm := Nat.mod_eq_zero_of_dvd hd
      have : y / (w + 1) = a - x / (w + 1) := by
        rw [hy2, show (w + 1) * a - x = (w + 1) * (a - x / (w + 1)) by rw [Nat.mul_sub]; omega, Nat.mul_div_cancel_left _ hb]
      omega
    · rw [if_neg fun z => hd (key.mpr z)]
      have hm : x % (w + 1) ≠ 0 := fun z => hd (Nat.dvd_of_mod_eq_zero z)
      have hlt : x / (w + 1) < a := by
        rcases Nat.lt_or_ge (x / (w + 1)) a with h | h
        · exact h
        · exfalso
          have : x / (w + 1) = a := by omega
          rw [this] at dx
          omega
      have : y / (w + 1) = a - x / (w + 1) - 1 := by
        obtain ⟨k, hk⟩ : ∃ k, a = x / (w + 1) + 1 + k := ⟨a - x / (w + 1) - 1, by omega⟩
        have e5 : (w + 1) * a = (w + 1) * (x / (w + 1)) + (w + 1) + (w + 1) * k := by
          conv => lhs; rw [hk]
          rw [Nat.mul_add, Nat.mul_add, Nat.mul_one]
        have : y = (w + 1) * k + (w + 1 - x % (w + 1)) := by omega
        rw [this, Nat.mul_add_div hb, Nat.div_eq_of_lt (by omega)]
        omega
      omega
  have e2 : S w (fun i => a * (w - 1 - i + 1) / (w + 1)) = S w (fun i => a * (i + 1) / (w + 1)) := S_rev (fun i => a * (i + 1) / (w + 1)) w
  rw [e2, S_one, S_const, S_dvd hq] at e1
  rw [e0]
  have e3 : w / ((w + 1) / Nat.gcd a (w + 1)) + 1 = Nat.gcd a (w + 1) := by
    generalize Nat.gcd a (w + 1) = g at *
    generalize hqq : (w + 1) / g = q at *
    obtain ⟨g', rfl⟩ : ∃ g', g = g' + 1 := ⟨g - 1, by omega⟩
    have : w = q * g' + (q - 1) := by
      have : q * (g' + 1) = q * g' + q := by rw [Nat.mul_add, Nat.mul_one]
      omega
    rw [this, Nat.mul_add_div hq, Nat.div_eq_of_lt (by omega)]
  have e4 : a * (w + 1) = a * w + a := by rw [Nat.mul_add, Nat.mul_one]
  omega
end M8

namespace Lw
open PySem PySem.Spec PyProof.Rows L2 DL
def topS (i : Nat) : Stmt := PySem.Challenge.pw_coverallrows_k08_whole_floors_by_turns_a.main.body.getD i (.Pass ⟨0, 0, 0, 0⟩)
abbrev s_is_integer : Stmt := topS 1
abbrev s_is_within : Stmt := topS 2
abbrev s_is_tuple_of : Stmt := topS 3
abbrev s_common_part : Stmt := topS 13
abbrev s_is_number : Stmt := topS 16
abbrev s_check_number : Stmt := topS 17
abbrev s_rest_of : Stmt := topS 18
abbrev s_is_floor : Stmt := topS 23
abbrev s_check_floor : Stmt := topS 24
abbrev s_raw_at : Stmt := topS 25
abbrev s_floor_at : Stmt := topS 26
abbrev s_raw_has : Stmt := topS 27
abbrev s_floor_has : Stmt := topS 28
abbrev s_steps_of : Stmt := topS 29
abbrev s_floor_sum : Stmt := topS 30
abbrev s_even_word : Stmt := topS 31
abbrev s_counts_of : Stmt := topS 32
abbrev s_is_even : Stmt := topS 33
abbrev s_floor_bill : Stmt := topS 36
abbrev s__law_hand : Stmt := topS 38
abbrev s__law_draw : Stmt := topS 39
abbrev s__law_any : Stmt := topS 40
abbrev s__law_is : Stmt := topS 41
abbrev s__law_common : Stmt := topS 42
abbrev s__law_great : Stmt := topS 43
abbrev s__law_are_bills_right : Stmt := topS 44
abbrev s__law_are_floors_right : Stmt := topS 45
abbrev s__law_are_words_right : Stmt := topS 46
abbrev s_law : Stmt := topS 47
theorem sc_is_integer : FnScope ["thing"] ["thing"] (defScope s_is_integer) := ⟨rfl, rfl, rfl, by decide +kernel, rfl, by decide +kernel, by decide +kernel⟩
theorem sc_is_within : FnScope ["thing", "least", "most"] ["thing", "least", "most"] (defScope s_is_within) := ⟨rfl, rfl, rfl, by decide +kernel, rfl, by decide +kernel, by decide +kernel⟩
theorem sc_is_tuple_of : FnScope ["thing", "size"] ["thing", "size"] (defScope s_is_tuple_of) := ⟨rfl, rfl, rfl, by decide +kernel, rfl, by decide +kernel, by decide +kernel⟩
theorem sc_common_part : FnScope ["one", "other"] ["one", "other"] (defScope s_common_part) := ⟨rfl, rfl, rfl, by decide +kernel, rfl, by decide +kernel, by decide +kernel⟩
theorem sc_is_number : FnScope ["thing"] ["thing"] (defScope s_is_number) := ⟨rfl, rfl, rfl, by decide +kernel, rfl, by decide +kernel, by decide +kernel⟩
theorem sc_check_number : FnScope ["number"] ["number"] (defScope s_check_number) := ⟨rfl, rfl, rfl, by decide +kernel, rfl, by decide +kernel, by decide +kernel⟩
theorem sc_rest_of : FnScope ["number", "part"] ["number", "part"] (defScope s_rest_of) := ⟨rfl, rfl, rfl, by decide +kernel, rfl, by decide +kernel, by decide +kernel⟩
theorem sc_is_floor : FnScope ["thing"] ["thing"] (defScope s_is_floor) := ⟨rfl, rfl, rfl, by decide +kernel, rfl, by decide +kernel, by decide +kernel⟩
theorem sc_check_floor : FnScope ["floor"] ["floor"] (defScope s_check_floor) := ⟨rfl, rfl, rfl, by decide +kernel, rfl, by decide +kernel, by decide +kernel⟩
theorem sc_raw_at : FnScope ["floor", "number"] ["floor", "number"] (defScope s_raw_at) := ⟨rfl, rfl, rfl, by decide +kernel, rfl, by decide +kernel, by decide +kernel⟩
theorem sc_floor_at : FnScope ["floor", "number"] ["floor", "number"] (defScope s_floor_at) := ⟨rfl, rfl, rfl, by decide +kernel, rfl, by decide +kernel, by decide +kernel⟩
theorem sc_raw_has : FnScope ["floor", "number", "place"] ["floor", "number"] (defScope s_raw_has) := ⟨rfl, rfl, rfl, by decide +kernel, rfl, by decide +kernel, by decide +kernel⟩
theorem sc_floor_has : FnScope ["floor", "number"] ["floor", "number"] (defScope s_floor_has) := ⟨rfl, rfl, rfl, by decide +kernel, rfl, by decide +kernel, by decide +kernel⟩
theorem sc_steps_of : FnScope ["floor", "many", "place"] ["floor"] (defScope s_steps_of) := ⟨rfl, rfl, rfl, by decide +kernel, rfl, by decide +kernel, by decide +kernel⟩
theorem sc_floor_sum : FnScope ["many", "floor", "top", "bottom", "shift", "total", "left", "whole"] ["many", "floor"] (defScope s_floor_sum) := ⟨rfl, rfl, rfl, by decide +kernel, rfl, by decide +kernel, by decide +kernel⟩
theorem sc_even_word : FnScope ["many", "ones", "place"] ["many", "ones"] (defScope s_even_word) := ⟨rfl, rfl, rfl, by decide +kernel, rfl, by decide +kernel, by decide +kernel⟩
theorem sc_counts_of : FnScope ["word", "size", "place"] ["word", "size"] (defScope s_counts_of) := ⟨rfl, rfl, rfl, by decide +kernel, rfl, by decide +kernel, by decide +kernel⟩
theorem sc_is_even : FnScope ["thing", "counts", "sign", "size", "row"] ["thing"] (defScope s_is_even) := ⟨rfl, rfl, rfl, by decide +kernel, rfl, by decide +kernel, by decide +kernel⟩
theorem sc_floor_bill : FnScope ["many", "top", "bottom", "found", "left", "up", "down", "more", "last"] ["many", "top", "bottom"] (defScope s_floor_bill) := ⟨rfl, rfl, rfl, by decide +kernel, rfl, by decide +kernel, by decide +kernel⟩
theorem sc__law_hand : FnScope ["script", "cells", "cell"] ["script"] (defScope s__law_hand) := ⟨rfl, rfl, rfl, by decide +kernel, rfl, by decide +kernel, by decide +kernel⟩
theorem sc__law_draw : FnScope ["hand", "many", "cell", "digit", "number"] ["hand", "many"] (defScope s__law_draw) := ⟨rfl, rfl, rfl, by decide +kernel, rfl, by decide +kernel, by decide +kernel⟩
theorem sc__law_any : FnScope ["hand", "some"] ["hand", "some"] (defScope s__law_any) := ⟨rfl, rfl, rfl, by decide +kernel, rfl, by decide +kernel, by decide +kernel⟩
theorem sc__law_is : FnScope ["told", "due"] ["told", "due"] (defScope s__law_is) := ⟨rfl, rfl, rfl, by decide +kernel, rfl, by decide +kernel, by decide +kernel⟩
theorem sc__law_common : FnScope ["one", "other"] ["one", "other"] (defScope s__law_common) := ⟨rfl, rfl, rfl, by decide +kernel, rfl, by decide +kernel, by decide +kernel⟩
theorem sc__law_great : FnScope ["hand"] ["hand"] (defScope s__law_great) := ⟨rfl, rfl, rfl, by decide +kernel, rfl, by decide +kernel, by decide +kernel⟩
theorem sc__law_are_bills_right : FnScope ["hand", "top", "bottom", "by", "due", "wide", "high", "both", "many", "more", "lift", "low"] ["hand"] (defScope s__law_are_bills_right) := ⟨rfl, rfl, rfl, by decide +kernel, rfl, by decide +kernel, by decide +kernel⟩
theorem sc__law_are_floors_right : FnScope ["hand", "top", "bottom", "by", "shift", "floor", "many", "number", "here", "told", "later", "steps", "shifts", "whole", "sums", "plain", "at", "one"] ["hand"] (defScope s__law_are_floors_right) := ⟨rfl, rfl, rfl, by decide +kernel, rfl, by decide +kernel, by decide +kernel⟩
theorem sc__law_are_words_right : FnScope ["hand", "many", "ones", "signs", "word", "other", "at", "turned", "bent", "sign"] ["hand"] (defScope s__law_are_words_right) := ⟨rfl, rfl, rfl, by decide +kernel, rfl, by decide +kernel, by decide +kernel⟩
theorem sc_law : FnScope ["script", "hand", "turn"] ["script"] (defScope s_law) := ⟨rfl, rfl, rfl, by decide +kernel, rfl, by decide +kernel, by decide +kernel⟩
/-- what the top has left -/
structure Env (K : PySem.W.Frag) (mg : Str → Option Value) where
  a_is_integer : Addr
  fd_is_integer : FuncData
  F_is_integer : Fun K "is_integer" "is_integer" s_is_integer a_is_integer fd_is_integer
  b_is_integer : Binds K fd_is_integer ["thing"] []
  g_is_integer : mg "is_integer" = some (.ref a_is_integer)
  a_is_within : Addr
  fd_is_within : FuncData
  F_is_within : Fun K "is_within" "is_within" s_is_within a_is_within fd_is_within
  b_is_within : Binds K fd_is_within ["thing", "least", "most"] []
  g_is_within : mg "is_within" = some (.ref a_is_within)
  a_is_tuple_of : Addr
  fd_is_tuple_of : FuncData
  F_is_tuple_of : Fun K "is_tuple_of" "is_tuple_of" s_is_tuple_of a_is_tuple_of fd_is_tuple_of
  b_is_tuple_of : Binds K fd_is_tuple_of ["thing", "size"] []
  g_is_tuple_of : mg "is_tuple_of" = some (.ref a_is_tuple_of)
  a_common_part : Addr
  fd_common_part : FuncData
  F_common_part : Fun K "common_part" "common_part" s_common_part a_common_part fd_common_part
  b_common_part : Binds K fd_common_part ["one", "other"] []
  g_common_part : mg "common_part" = some (.ref a_common_part)
  a_is_number : Addr
  fd_is_number : FuncData
  F_is_number : Fun K "is_number" "is_number" s_is_number a_is_number fd_is_number
  b_is_number : Binds K fd_is_number ["thing"] []
  g_is_number : mg "is_number" = some (.ref a_is_number)
  a_check_number : Addr
  fd_check_number : FuncData
  F_check_number : Fun K "check_number" "check_number" s_check_number a_check_number fd_check_number
  b_check_number : Binds K fd_check_number ["number"] []
  g_check_number : mg "check_number" = some (.ref a_check_number)
  a_rest_of : Addr
  fd_rest_of : FuncData
  F_rest_of : Fun K "rest_of" "rest_of" s_rest_of a_rest_of fd_rest_of
  b_rest_of : Binds K fd_rest_of ["number", "part"] []
  g_rest_of : mg "rest_of" = some (.ref a_rest_of)
  a_is_floor : Addr
  fd_is_floor : FuncData
  F_is_floor : Fun K "is_floor" "is_floor" s_is_floor a_is_floor fd_is_floor
  b_is_floor : Binds K fd_is_floor ["thing"] []
  g_is_floor : mg "is_floor" = some (.ref a_is_floor)
  a_check_floor : Addr
  fd_check_floor : FuncData
  F_check_floor : Fun K "check_floor" "check_floor" s_check_floor a_check_floor fd_check_floor
  b_check_floor : Binds K fd_check_floor ["floor"] []
  g_check_floor : mg "check_floor" = some (.ref a_check_floor)
  a_raw_at : Addr
  fd_raw_at : FuncData
  F_raw_at : Fun K "raw_at" "raw_at" s_raw_at a_raw_at fd_raw_at
  b_raw_at : Binds K fd_raw_at ["floor", "number"] []
  g_raw_at : mg "raw_at" = some (.ref a_raw_at)
  a_floor_at : Addr
  fd_floor_at : FuncData
  F_floor_at : Fun K "floor_at" "floor_at" s_floor_at a_floor_at fd_floor_at
  b_floor_at : Binds K fd_floor_at ["floor", "number"] []
  g_floor_at : mg "floor_at" = some (.ref a_floor_at)
  a_raw_has : Addr
  fd_raw_has : FuncData
  F_raw_has : Fun K "raw_has" "raw_has" s_raw_has a_raw_has fd_raw_has
  b_raw_has : Binds K fd_raw_has ["floor", "number"] []
  g_raw_has : mg "raw_has" = some (.ref a_raw_has)
  a_floor_has : Addr
  fd_floor_has : FuncData
  F_floor_has : Fun K "floor_has" "floor_has" s_floor_has a_floor_has fd_floor_has
  b_floor_has : Binds K fd_floor_has ["floor", "number"] []
  g_floor_has : mg "floor_has" = some (.ref a_floor_has)
  a_steps_of : Addr
  fd_steps_of : FuncData
  F_steps_of : Fun K "steps_of" "steps_of" s_steps_of a_steps_of fd_steps_of
  b_steps_of : Binds K fd_steps_of ["floor"] []
  g_steps_of : mg "steps_of" = some (.ref a_steps_of)
  a_floor_sum : Addr
  fd_floor_sum : FuncData
  F_floor_sum : Fun K "floor_sum" "floor_sum" s_floor_sum a_floor_sum fd_floor_sum
  b_floor_sum : Binds K fd_floor_sum ["many", "floor"] []
  g_floor_sum : mg "floor_sum" = some (.ref a_floor_sum)
  a_even_word : Addr
  fd_even_word : FuncData
  F_even_word : Fun K "even_word" "even_word" s_even_word a_even_word fd_even_word
  b_even_word : Binds K fd_even_word ["many", "ones"] []
  g_even_word : mg "even_word" = some (.ref a_even_word)
  a_counts_of : Addr
  fd_counts_of : FuncData
  F_counts_of : Fun K "counts_of" "counts_of" s_counts_of a_counts_of fd_counts_of
  b_counts_of : Binds K fd_counts_of ["word", "size"] []
  g_counts_of : mg "counts_of" = some (.ref a_counts_of)
  a_is_even : Addr
  fd_is_even : FuncData
  F_is_even : Fun K "is_even" "is_even" s_is_even a_is_even fd_is_even
  b_is_even : Binds K fd_is_even ["thing"] []
  g_is_even : mg "is_even" = some (.ref a_is_even)
  a_floor_bill : Addr
  fd_floor_bill : FuncData
  F_floor_bill : Fun K "floor_bill" "floor_bill" s_floor_bill a_floor_bill fd_floor_bill
  b_floor_bill : Binds K fd_floor_bill ["many", "top", "bottom"] []
  g_floor_bill : mg "floor_bill" = some (.ref a_floor_bill)
  a__law_hand : Addr
  fd__law_hand : FuncData
  F__law_hand : Fun K "_law_hand" "_law_hand" s__law_hand a__law_hand fd__law_hand
  b__law_hand : Binds K fd__law_hand ["script"] []
  g__law_hand : mg "_law_hand" = some (.ref a__law_hand)
  a__law_draw : Addr
  fd__law_draw : FuncData
  F__law_draw : Fun K "_law_draw" "_law_draw" s__law_draw a__law_draw fd__law_draw
  b__law_draw : Binds K fd__law_draw ["hand", "many"] []
  g__law_draw : mg "_law_draw" = some (.ref a__law_draw)
  a__law_any : Addr
  fd__law_any : FuncData
  F__law_any : Fun K "_law_any" "_law_any" s__law_any a__law_any fd__law_any
  b__law_any : Binds K fd__law_any ["hand", "some"] []
  g__law_any : mg "_law_any" = some (.ref a__law_any)
  a__law_is : Addr
  fd__law_is : FuncData
  F__law_is : Fun K "_law_is" "_law_is" s__law_is a__law_is fd__law_is
  b__law_is : Binds K fd__law_is ["told", "due"] []
  g__law_is : mg "_law_is" = some (.ref a__law_is)
  a__law_common : Addr
  fd__law_common : FuncData
  F__law_common : Fun K "_law_common" "_law_common" s__law_common a__law_common fd__law_common
  b__law_common : Binds K fd__law_common ["one", "other"] []
  g__law_common : mg "_law_common" = some (.ref a__law_common)
  a__law_great : Addr
  fd__law_great : FuncData
  F__law_great : Fun K "_law_great" "_law_great" s__law_great a__law_great fd__law_great
  b__law_great : Binds K fd__law_great ["hand"] []
  g__law_great : mg "_law_great" = some (.ref a__law_great)
  a__law_are_bills_right : Addr
  fd__law_are_bills_right : FuncData
  F__law_are_bills_right : Fun K "_law_are_bills_right" "_law_are_bills_right" s__law_are_bills_right a__law_are_bills_right fd__law_are_bills_right
  b__law_are_bills_right : Binds K fd__law_are_bills_right ["hand"] []
  g__law_are_bills_right : mg "_law_are_bills_right" = some (.ref a__law_are_bills_right)
  a__law_are_floors_right : Addr
  fd__law_are_floors_right : FuncData
  F__law_are_floors_right : Fun K "_law_are_floors_right" "_law_are_floors_right" s__law_are_floors_right a__law_are_floors_right fd__law_are_floors_right
  b__law_are_floors_right : Binds K fd__law_are_floors_right ["hand"] []
  g__law_are_floors_right : mg "_law_are_floors_right" = some (.ref a__law_are_floors_right)
  a__law_are_words_right : Addr
  fd__law_are_words_right : FuncData
  F__law_are_words_right : Fun K "_law_are_words_right" "_law_are_words_right" s__law_are_words_right a__law_are_words_right fd__law_are_words_right
  b__law_are_words_right : Binds K fd__law_are_words_right ["hand"] []
  g__law_are_words_right : mg "_law_are_words_right" = some (.ref a__law_are_words_right)
  a_law : Addr
  fd_law : FuncData
  F_law : Fun K "law" "law" s_law a_law fd_law
  b_law : Binds K fd_law ["script"] []
  g_law : mg "law" = some (.ref a_law)
  z_abs : mg "abs" = none
  z_all : mg "all" = none
  z_bool : mg "bool" = none
  z_int : mg "int" = none
  z_isinstance : mg "isinstance" = none
  z_len : mg "len" = none
  z_max : mg "max" = none
  z_min : mg "min" = none
  z_range : mg "range" = none
  z_repr : mg "repr" = none
  z_str : mg "str" = none
  z_sum : mg "sum" = none
  z_tuple : mg "tuple" = none
  c_MOST_FLOOR_bills : Σ' t : Tok, mg "MOST_FLOOR_bills" = some (.int 1000000000 t)
  c_MOST_FLOOR_floors : Σ' t : Tok, mg "MOST_FLOOR_floors" = some (.int 40 t)
  c_MOST_NUMBER : Σ' t : Tok, mg "MOST_NUMBER" = some (.int 10000000000000000000000000000000000000000 t)
  c_MOST_SUMMED_FLOORS : Σ' t : Tok, mg "MOST_SUMMED_FLOORS" = some (.int 1000000000 t)
  c_MOST_WORD : Σ' t : Tok, mg "MOST_WORD" = some (.int 60 t)
theorem room65 {k : Nat} {A : Around} (r : Room k A) : A.units + 65 < cLine := by have := r.un; omega
def m_is_integer : ME Fl :=
    retS (vAn (u1 (isiD isInt) (nm 0)) (vNo (u1 (isiD isBool) (nm 0))))
def m_is_within : ME Fl :=
    retS (vAn (cl 1 (runP 1 m_is_integer) (aCons (nm 0) (aNil))) (ch leD leD (nm 1) (nm 0) (nm 2)))
def m_is_tuple_of : ME Fl :=
    retS (vAn (u1 (isiD isTup) (nm 0)) (b2 eqD (cb lenD (aCons (nm 0) (aNil))) (nm 1)))
def m_common_part : ME Fl :=
    seqS (parS [0, 1] (mV (cb absD (aCons (nm 0) (aNil))) (mV (cb absD (aCons (nm 1) (aNil))) (mNil))))
    (seqS (whS (tv (b2 neD (nm 1) (rt (.int 0)))) (parS [0, 1] (mV (nm 1) (mV (b2 subD (nm 0) (b2 mulA (nm 1) (b2 fdivD (nm 0) (nm 1)))) (mNil)))))
    (retS (nm 0)))
def m_is_number : ME Fl :=
    retS (cl 3 (runP 3 m_is_within) (aCons (nm 0) (aCons (rt (.int 0)) (aCons (rt (.int 10000000000000000000000000000000000000000)) (aNil)))))
def m_check_number : ME Fl :=
    ifS (tNo (tv (cl 1 (runP 1 m_is_number) (aCons (nm 0) (aNil))))) (nevS) (nxS)
def m_rest_of : ME Fl :=
    retS (b2 subD (nm 0) (b2 mulA (nm 1) (b2 fdivD (nm 0) (nm 1))))
def m_is_floor : ME Fl :=
    seqS (ifS (tOr' (tNo (tv (cl 2 (runP 2 m_is_tuple_of) (aCons (nm 0) (aCons (rt (.int 3)) (aNil)))))) (tNo (tv (cl 3 (runP 3 m_is_within) (aCons (b2 ixD (nm 0) (rt (.int 0))) (aCons (rt (.int 1)) (aCons (rt (.int 40)) (aNil)))))))) (retS (rt (.bool false))) (nxS))
    (retS (vAn (cl 3 (runP 3 m_is_within) (aCons (b2 ixD (nm 0) (rt (.int 1))) (aCons (rt (.int 1)) (aCons (b2 ixD (nm 0) (rt (.int 0))) (aNil))))) (cl 3 (runP 3 m_is_within) (aCons (b2 ixD (nm 0) (rt (.int 2))) (aCons (rt (.int 0)) (aCons (rt (.int 40)) (aNil)))))))
def m_check_floor : ME Fl :=
    ifS (tNo (tv (cl 1 (runP 1 m_is_floor) (aCons (nm 0) (aNil))))) (nevS) (nxS)
def m_raw_at : ME Fl :=
    retS (b2 fdivD (b2 addA (b2 mulA (nm 1) (b2 ixD (nm 0) (rt (.int 0)))) (b2 ixD (nm 0) (rt (.int 2)))) (b2 ixD (nm 0) (rt (.int 1))))
def m_floor_at : ME Fl :=
    seqS (drp (cl 1 (runP 1 m_check_floor) (aCons (nm 0) (aNil))))
    (seqS (drp (cl 1 (runP 1 m_check_number) (aCons (nm 1) (aNil))))
    (retS (cl 2 (runP 2 m_raw_at) (aCons (nm 0) (aCons (nm 1) (aNil))))))
def m_raw_has : ME Fl :=
    seqS (asgS 2 (u1 negD (b2 fdivD (b2 subD (b2 ixD (nm 0) (rt (.int 2))) (b2 mulA (nm 1) (b2 ixD (nm 0) (rt (.int 1))))) (b2 ixD (nm 0) (rt (.int 0))))))
    (retS (vAn (b2 geD (nm 2) (rt (.int 0))) (b2 eqD (cl 2 (runP 2 m_raw_at) (aCons (nm 0) (aCons (nm 2) (aNil)))) (nm 1))))
def m_floor_has : ME Fl :=
    seqS (drp (cl 1 (runP 1 m_check_floor) (aCons (nm 0) (aNil))))
    (seqS (drp (cl 1 (runP 1 m_check_number) (aCons (nm 1) (aNil))))
    (retS (cl 2 (runP 3 m_raw_has) (aCons (nm 0) (aCons (nm 1) (aNil))))))
def m_steps_of : ME Fl :=
    seqS (drp (cl 1 (runP 1 m_check_floor) (aCons (nm 0) (aNil))))
    (seqS (asgS 1 (b2 fdivD (b2 ixD (nm 0) (rt (.int 1))) (cl 2 (runP 2 m_common_part) (aCons (b2 ixD (nm 0) (rt (.int 0))) (aCons (b2 ixD (nm 0) (rt (.int 1))) (aNil))))))
    (retS (cb tupleD (aCons (fr (lcS (rngI rng1D (aCons (nm 1) (aNil))) (gNm 2) (rt true) (b2 subD (cl 2 (runP 2 m_raw_at) (aCons (nm 0) (aCons (b2 addA (nm 2) (rt (.int 1))) (aNil)))) (cl 2 (runP 2 m_raw_at) (aCons (nm 0) (aCons (nm 2) (aNil))))) [2])) (aNil)))))
def m_floor_sum : ME Fl :=
    seqS (ifS (tNo (tv (cl 3 (runP 3 m_is_within) (aCons (nm 0) (aCons (rt (.int 0)) (aCons (rt (.int 1000000000)) (aNil))))))) (nevS) (nxS))
    (seqS (drp (cl 1 (runP 1 m_check_floor) (aCons (nm 1) (aNil))))
    (seqS (unS (gTupS 3 (gConsS (gNm 2) (gConsS (gNm 3) (gConsS (gNm 4) (gNilS))))) (nm 1))
    (seqS (parS [5, 6] (mV (rt (.int 0)) (mV (nm 0) (mNil))))
    (seqS (whS (tv (b2 gtD (nm 6) (rt (.int 0)))) (seqS (augS addI 5 (b2 addA (b2 mulA (b2 fdivD (b2 mulA (b2 subD (nm 6) (rt (.int 1))) (nm 6)) (rt (.int 2))) (b2 fdivD (nm 2) (nm 3))) (b2 mulA (nm 6) (b2 fdivD (nm 4) (nm 3)))))
    (seqS (parS [2, 4] (mV (cl 2 (runP 2 m_rest_of) (aCons (nm 2) (aCons (nm 3) (aNil)))) (mV (cl 2 (runP 2 m_rest_of) (aCons (nm 4) (aCons (nm 3) (aNil)))) (mNil))))
    (seqS (asgS 7 (b2 addA (b2 mulA (nm 2) (nm 6)) (nm 4)))
    (seqS (parS [6, 4] (mV (b2 fdivD (nm 7) (nm 3)) (mV (cl 2 (runP 2 m_rest_of) (aCons (nm 7) (aCons (nm 3) (aNil)))) (mNil))))
    (seqS (parS [2, 3] (mV (nm 3) (mV (nm 2) (mNil))))
    (ifS (tv (b2 eqD (nm 3) (rt (.int 0)))) (asgS 6 (rt (.int 0))) (nxS))))))))
    (retS (nm 5))))))
def m_even_word : ME Fl :=
    seqS (ifS (tNo (tv (cl 3 (runP 3 m_is_within) (aCons (nm 0) (aCons (rt (.int 1)) (aCons (rt (.int 60)) (aNil))))))) (nevS) (nxS))
    (seqS (ifS (tNo (tv (cl 3 (runP 3 m_is_within) (aCons (nm 1) (aCons (rt (.int 0)) (aCons (nm 0) (aNil))))))) (nevS) (nxS))
    (retS (b2 joinD (rt (.str "")) (fr (lcS (rngI rng1D (aCons (nm 0) (aNil))) (gNm 2) (rt true) (cb strD (aCons (b2 subD (b2 fdivD (b2 mulA (b2 addA (nm 2) (rt (.int 1))) (nm 1)) (nm 0)) (b2 fdivD (b2 mulA (nm 2) (nm 1)) (nm 0))) (aNil))) [2])))))
def m_counts_of : ME Fl :=
    retS (fr (lcS (rngI rng1D (aCons (b2 addA (b2 subD (cb lenD (aCons (nm 0) (aNil))) (nm 1)) (rt (.int 1))) (aNil))) (gNm 2) (rt true) (b2 countD (slS (nm 0) (oSo (nm 2)) (oSo (b2 addA (nm 2) (nm 1)))) (rt (.str "1"))) [2]))
def m_is_even : ME Fl :=
    seqS (ifS (tOr' (tNo (tv (u1 (isiD isStr) (nm 0)))) (tOr' (tNo (tv (ch leD leD (rt (.int 1)) (cb lenD (aCons (nm 0) (aNil))) (rt (.int 60))))) (tNo (tv (cb allD (aCons (fr (lcS (seqI (nm 0)) (gNm 2) (rt true) (b2 inD (nm 2) (rt (.str "01"))) [2])) (aNil))))))) (retS (rt (.bool false))) (nxS))
    (seqS (asgS 1 (fr (lcS (rngI rng2D (aCons (rt (.int 1)) (aCons (b2 addA (cb lenD (aCons (nm 0) (aNil))) (rt (.int 1))) (aNil)))) (gNm 3) (rt true) (cl 2 (runP 3 m_counts_of) (aCons (nm 0) (aCons (nm 3) (aNil)))) [3])))
    (retS (cb allD (aCons (fr (lcS (seqI (nm 1)) (gNm 4) (rt true) (b2 leD (b2 subD (cb maxD (aCons (nm 4) (aNil))) (cb minD (aCons (nm 4) (aNil)))) (rt (.int 1))) [4])) (aNil)))))
def m_floor_bill : ME Fl :=
    seqS (ifS (tNo (tv (cl 3 (runP 3 m_is_within) (aCons (nm 0) (aCons (rt (.int 0)) (aCons (rt (.int 1000000000)) (aNil))))))) (nevS) (nxS))
    (seqS (ifS (tNo (tv (cl 3 (runP 3 m_is_within) (aCons (nm 1) (aCons (rt (.int 0)) (aCons (rt (.int 1000000000)) (aNil))))))) (nevS) (nxS))
    (seqS (ifS (tNo (tv (cl 3 (runP 3 m_is_within) (aCons (nm 2) (aCons (rt (.int 1)) (aCons (rt (.int 1000000000)) (aNil))))))) (nevS) (nxS))
    (seqS (parS [3, 4, 5, 6, 7] (mV (rt (.int 0)) (mV (nm 0) (mV (nm 1) (mV (nm 2) (mV (rt (.int 0)) (mNil)))))))
    (seqS (whS (tv (b2 gtD (nm 4) (rt (.int 0)))) (seqS (asgS 3 (b2 addA (b2 addA (nm 3) (b2 mulA (b2 fdivD (nm 5) (nm 6)) (b2 fdivD (b2 mulA (nm 4) (b2 subD (nm 4) (rt (.int 1)))) (rt (.int 2))))) (b2 mulA (b2 fdivD (nm 7) (nm 6)) (nm 4))))
    (seqS (parS [5, 7] (mV (b2 subD (nm 5) (b2 mulA (nm 6) (b2 fdivD (nm 5) (nm 6)))) (mV (b2 subD (nm 7) (b2 mulA (nm 6) (b2 fdivD (nm 7) (nm 6)))) (mNil))))
    (seqS (asgS 8 (b2 addA (b2 mulA (nm 5) (nm 4)) (nm 7)))
    (seqS (ifS (tv (b2 ltD (nm 8) (nm 6))) (retS (nm 3)) (nxS))
    (seqS (parS [4, 7] (mV (b2 fdivD (nm 8) (nm 6)) (mV (b2 subD (nm 8) (b2 mulA (nm 6) (b2 fdivD (nm 8) (nm 6)))) (mNil))))
    (parS [5, 6] (mV (nm 6) (mV (nm 5) (mNil))))))))))
    (retS (nm 3))))))
def m__law_hand : ME Fl :=
    seqS (asgS 1 (fr (lcS (seqI (fr (slSc 0 63))) (gNm 2) (rt true) (cb absD (aCons (cb intD (aCons (nm 2) (aNil))) (aNil))) [2])))
    (retN (bd (aCons (nm 1) (aCons (rt (.int 0)) (aCons (rt (.int 0)) (aCons (b2 addA (rt (.int 62201)) (b2 mulA (rt (.int 7)) (cb lenD (aCons (nm 1) (aNil))))) (aCons (rt (.int 0)) (aNil)))))) fun ds => lf (shortL ds)))
def m__law_draw : ME Fl :=
    seqS (ifS (tAn (tv (b2 eqD (ixO 0 (rt (.int 2))) (rt (.int 0)))) (tv (b2 ltD (ixO 0 (rt (.int 1))) (cb lenD (aCons (ixO 0 (rt (.int 0))) (aNil)))))) (seqS (asgS 2 (b2 ixD (ixO 0 (rt (.int 0))) (ixO 0 (rt (.int 1)))))
    (seqS (setO 0 (rt (.int 1)) (b2 addA (ixO 0 (rt (.int 1))) (rt (.int 1))))
    (seqS (setO 0 (rt (.int 3)) (b2 modD (cb intD (aCons (b2 addA (b2 addA (b2 mulA (ixO 0 (rt (.int 3))) (rt (.int 69621))) (b2 mulA (nm 2) (rt (.int 40692)))) (rt (.int 83))) (aNil))) (rt (.int 2147483629))))
    (ifS (tv (b2 geD (nm 2) (b2 powD (rt (.int 10)) (rt (.int 18))))) (setO 0 (rt (.int 2)) (nm 2)) (nxS))))) (nxS))
    (seqS (ifS (tv (b2 gtD (ixO 0 (rt (.int 2))) (rt (.int 0)))) (seqS (asgS 3 (b2 modD (cb intD (aCons (ixO 0 (rt (.int 2))) (aNil))) (nm 1)))
    (seqS (setO 0 (rt (.int 2)) (b2 fdivD (ixO 0 (rt (.int 2))) (nm 1)))
    (retS (nm 3)))) (nxS))
    (seqS (setO 0 (rt (.int 4)) (b2 addA (ixO 0 (rt (.int 4))) (rt (.int 1))))
    (seqS (asgS 4 (b2 modD (cb intD (aCons (b2 mulA (cb intD (aCons (b2 addA (ixO 0 (rt (.int 3))) (b2 mulA (rt (.int 7919)) (ixO 0 (rt (.int 4))))) (aNil))) (rt (.int 48271))) (aNil))) (rt (.int 2147483647))))
    (seqS (asgS 4 (b2 modD (cb intD (aCons (b2 mulA (nm 4) (b2 addA (b2 fdivD (nm 4) (rt (.int 1009))) (rt (.int 69621)))) (aNil))) (rt (.int 2147483647))))
    (seqS (asgS 4 (b2 modD (cb intD (aCons (b2 mulA (nm 4) (b2 addA (b2 fdivD (nm 4) (rt (.int 2003))) (rt (.int 40692)))) (aNil))) (rt (.int 2147483399))))
    (retS (b2 modD (cb intD (aCons (b2 fdivD (nm 4) (rt (.int 16))) (aNil))) (nm 1))))))))
def m__law_any : ME Fl :=
    retS (b2 ixD (nm 1) (clI 1 (runI 5 m__law_draw) 0 (aCons (cb lenD (aCons (nm 1) (aNil))) (aNil))))
def m__law_is : ME Fl :=
    retS (b2 eqD (cb reprD (aCons (nm 0) (aNil))) (cb reprD (aCons (nm 1) (aNil))))
def m__law_common : ME Fl :=
    seqS (whS (tv (b2 gtD (nm 1) (rt (.int 0)))) (parS [0, 1] (mV (nm 1) (mV (b2 modD (cb intD (aCons (nm 0) (aNil))) (nm 1)) (mNil)))))
    (retS (nm 0))
def m__law_great : ME Fl :=
    retS (b2 addA (rt (.int 1)) (clI 1 (runI 5 m__law_draw) 0 (aCons (clI 1 (runI 2 m__law_any) 0 (aCons (fr (bd (aCons (rt (.int 5)) (aCons (rt (.int 60)) (aCons (b2 powD (rt (.int 10)) (rt (.int 5))) (aCons (b2 powD (rt (.int 10)) (rt (.int 9))) (aNil))))) fun ds => lf (shortL ds))) (aNil))) (aNil))))
def m__law_are_bills_right : ME Fl :=
    seqS (parS [1, 2] (mV (clI 0 (runI 1 m__law_great) 0 (aNil)) (mV (clI 0 (runI 1 m__law_great) 0 (aNil)) (mNil))))
    (seqS (asgS 3 (cl 2 (runP 2 m__law_common) (aCons (nm 1) (aCons (nm 2) (aNil)))))
    (seqS (asgS 4 (b2 fdivD (b2 subD (b2 addA (b2 mulA (b2 subD (nm 1) (rt (.int 1))) (b2 subD (nm 2) (rt (.int 1)))) (nm 3)) (rt (.int 1))) (rt (.int 2))))
    (seqS (ifS (tNo (tv (cl 2 (runP 2 m__law_is) (aCons (fr (bd (aCons (cl 3 (runP 9 m_floor_bill) (aCons (nm 2) (aCons (nm 1) (aCons (nm 2) (aNil))))) (aCons (cl 3 (runP 9 m_floor_bill) (aCons (nm 1) (aCons (nm 2) (aCons (nm 1) (aNil))))) (aNil))) fun ds => lf (shortL ds))) (aCons (fr (bd (aCons (nm 4) (aCons (nm 4) (aNil))) fun ds => lf (shortL ds))) (aNil)))))) (retS (rt (.bool false))) (nxS))
    (seqS (asgS 5 (clI 1 (runI 5 m__law_draw) 0 (aCons (cb min2D (aCons (b2 powD (rt (.int 10)) (rt (.int 9))) (aCons (b2 fdivD (b2 mulA (b2 powD (rt (.int 10)) (rt (.int 9))) (nm 2)) (nm 1)) (aNil)))) (aNil))))
    (seqS (asgS 6 (b2 fdivD (b2 mulA (nm 5) (nm 1)) (nm 2)))
    (seqS (ifS (tv (b2 ltD (nm 6) (b2 powD (rt (.int 10)) (rt (.int 9))))) (seqS (asgS 7 (b2 addA (cl 3 (runP 9 m_floor_bill) (aCons (b2 addA (nm 5) (rt (.int 1))) (aCons (nm 1) (aCons (nm 2) (aNil))))) (cl 3 (runP 9 m_floor_bill) (aCons (b2 addA (nm 6) (rt (.int 1))) (aCons (nm 2) (aCons (nm 1) (aNil)))))))
    (ifS (tv (b2 neD (nm 7) (b2 addA (b2 mulA (nm 5) (nm 6)) (b2 fdivD (nm 5) (b2 fdivD (nm 2) (nm 3)))))) (retS (rt (.bool false))) (nxS))) (nxS))
    (seqS (parS [8, 9] (mV (clI 1 (runI 5 m__law_draw) 0 (aCons (b2 addA (b2 powD (rt (.int 10)) (rt (.int 9))) (rt (.int 1))) (aNil))) (mV (clI 1 (runI 5 m__law_draw) 0 (aCons (rt (.int 5)) (aNil))) (mNil))))
    (seqS (ifS (tv (b2 leD (b2 addA (nm 1) (b2 mulA (nm 9) (nm 2))) (b2 powD (rt (.int 10)) (rt (.int 9))))) (seqS (asgS 10 (b2 subD (cl 3 (runP 9 m_floor_bill) (aCons (nm 8) (aCons (b2 addA (nm 1) (b2 mulA (nm 9) (nm 2))) (aCons (nm 2) (aNil))))) (cl 3 (runP 9 m_floor_bill) (aCons (nm 8) (aCons (nm 1) (aCons (nm 2) (aNil)))))))
    (ifS (tv (b2 neD (nm 10) (b2 mulA (nm 9) (b2 fdivD (b2 mulA (nm 8) (b2 subD (nm 8) (rt (.int 1)))) (rt (.int 2)))))) (retS (rt (.bool false))) (nxS))) (nxS))
    (seqS (asgS 11 (cl 3 (runP 9 m_floor_bill) (aCons (nm 8) (aCons (b2 fdivD (nm 1) (nm 3)) (aCons (b2 fdivD (nm 2) (nm 3)) (aNil))))))
    (retS (cl 2 (runP 2 m__law_is) (aCons (fr (bd (aCons (cl 3 (runP 9 m_floor_bill) (aCons (nm 8) (aCons (nm 1) (aCons (nm 2) (aNil))))) (aCons (cl 3 (runP 9 m_floor_bill) (aCons (rt (.int 0)) (aCons (nm 1) (aCons (nm 2) (aNil))))) (aNil))) fun ds => lf (shortL ds))) (aCons (fr (bd (aCons (nm 11) (aCons (rt (.int 0)) (aNil))) fun ds => lf (shortL ds))) (aNil))))))))))))))
def m__law_are_floors_right : ME Fl :=
    seqS (asgS 1 (b2 addA (rt (.int 1)) (clI 1 (runI 5 m__law_draw) 0 (aCons (rt (.int 40)) (aNil)))))
    (seqS (asgS 2 (b2 addA (rt (.int 1)) (clI 1 (runI 5 m__law_draw) 0 (aCons (nm 1) (aNil)))))
    (seqS (parS [3, 4] (mV (cl 2 (runP 2 m__law_common) (aCons (nm 1) (aCons (nm 2) (aNil)))) (mV (clI 1 (runI 5 m__law_draw) 0 (aCons (rt (.int 41)) (aNil))) (mNil))))
    (seqS (parS [5, 6] (mV (tupS (aCons (nm 1) (aCons (nm 2) (aCons (nm 4) (aNil))))) (mV (clI 1 (runI 2 m__law_any) 0 (aCons (fr (bd (aCons (b2 powD (rt (.int 10)) (rt (.int 9))) (aCons (clI 1 (runI 5 m__law_draw) 0 (aCons (b2 powD (rt (.int 10)) (rt (.int 9))) (aNil))) (aCons (clI 1 (runI 5 m__law_draw) 0 (aCons (rt (.int 100)) (aNil))) (aNil)))) fun ds => lf (shortL ds))) (aNil))) (mNil))))
    (seqS (asgS 7 (clI 1 (runI 2 m__law_any) 0 (aCons (fr (bd (aCons (clI 1 (runI 5 m__law_draw) 0 (aCons (rt (.int 100)) (aNil))) (aCons (b2 addA (b2 powD (rt (.int 10)) (rt (.int 30))) (clI 1 (runI 5 m__law_draw) 0 (aCons (b2 powD (rt (.int 10)) (rt (.int 6))) (aNil)))) (aNil))) fun ds => lf (shortL ds))) (aNil))))
    (seqS (asgS 8 (b2 fdivD (b2 addA (b2 mulA (nm 7) (nm 1)) (nm 4)) (nm 2)))
    (seqS (asgS 9 (fr (bd (aCons (cl 2 (runP 2 m_floor_at) (aCons (nm 5) (aCons (nm 7) (aNil)))) (aCons (cl 2 (runP 2 m_floor_at) (aCons (nm 5) (aCons (b2 addA (nm 7) (b2 fdivD (nm 2) (nm 3))) (aNil)))) (aCons (cl 2 (runP 2 m_floor_has) (aCons (nm 5) (aCons (nm 8) (aNil)))) (aNil)))) fun ds => lf (shortL ds))))
    (seqS (ifS (tNo (tv (cl 2 (runP 2 m__law_is) (aCons (nm 9) (aCons (fr (bd (aCons (nm 8) (aCons (b2 addA (nm 8) (b2 fdivD (nm 1) (nm 3))) (aCons (rt (.bool true)) (aNil)))) fun ds => lf (shortL ds))) (aNil)))))) (retS (rt (.bool false))) (nxS))
    (seqS (asgS 10 (cl 2 (runP 2 m_floor_at) (aCons (nm 5) (aCons (b2 addA (nm 7) (rt (.int 1))) (aNil)))))
    (seqS (ifS (tAn (tv (b2 gtD (nm 10) (b2 addA (nm 8) (rt (.int 1))))) (tv (b2 isNotD (cl 2 (runP 2 m_floor_has) (aCons (nm 5) (aCons (b2 addA (nm 8) (rt (.int 1))) (aNil)))) (rt (.bool false))))) (retS (rt (.bool false))) (nxS))
    (seqS (asgS 11 (cl 1 (runP 3 m_steps_of) (aCons (nm 5) (aNil))))
    (seqS (ifS (tNo (tv (cl 2 (runP 2 m__law_is) (aCons (fr (bd (aCons (cb lenD (aCons (nm 11) (aNil))) (aCons (cb sumD (aCons (nm 11) (aNil))) (aNil))) fun ds => lf (shortL ds))) (aCons (fr (bd (aCons (b2 fdivD (nm 2) (nm 3)) (aCons (b2 fdivD (nm 1) (nm 3)) (aNil))) fun ds => lf (shortL ds))) (aNil)))))) (retS (rt (.bool false))) (nxS))
    (seqS (asgS 12 (fr (lcS (rngI rng1D (aCons (nm 2) (aNil))) (gNm 16) (rt true) (tupS (aCons (nm 1) (aCons (nm 2) (aCons (nm 16) (aNil))))) [16])))
    (seqS (asgS 13 (cb sumD (aCons (fr (lcS (seqI (nm 12)) (gNm 17) (rt true) (cl 2 (runP 2 m_floor_at) (aCons (nm 17) (aCons (nm 7) (aNil)))) [17])) (aNil))))
    (seqS (asgS 14 (cb sumD (aCons (fr (lcS (seqI (nm 12)) (gNm 17) (rt true) (cl 2 (runP 8 m_floor_sum) (aCons (nm 6) (aCons (nm 17) (aNil)))) [17])) (aNil))))
    (seqS (ifS (tNo (tv (cl 2 (runP 2 m__law_is) (aCons (fr (bd (aCons (nm 13) (aCons (nm 14) (aNil))) fun ds => lf (shortL ds))) (aCons (fr (bd (aCons (b2 mulA (nm 7) (nm 1)) (aCons (b2 mulA (nm 1) (b2 fdivD (b2 mulA (nm 6) (b2 subD (nm 6) (rt (.int 1)))) (rt (.int 2)))) (aNil))) fun ds => lf (shortL ds))) (aNil)))))) (retS (rt (.bool false))) (nxS))
    (seqS (asgS 15 (tupS (aCons (nm 1) (aCons (nm 2) (aCons (b2 modD (cb intD (aCons (nm 4) (aNil))) (nm 2)) (aNil))))))
    (seqS (ifS (tv (b2 neD (cl 2 (runP 8 m_floor_sum) (aCons (nm 6) (aCons (nm 5) (aNil)))) (b2 addA (cl 2 (runP 8 m_floor_sum) (aCons (nm 6) (aCons (nm 15) (aNil)))) (b2 mulA (nm 6) (b2 fdivD (nm 4) (nm 2)))))) (retS (rt (.bool false))) (nxS))
    (retS (cl 2 (runP 2 m__law_is) (aCons (cl 2 (runP 8 m_floor_sum) (aCons (nm 6) (aCons (tupS (aCons (nm 1) (aCons (nm 2) (aCons (rt (.int 0)) (aNil))))) (aNil)))) (aCons (cl 3 (runP 9 m_floor_bill) (aCons (nm 6) (aCons (nm 1) (aCons (nm 2) (aNil))))) (aNil))))))))))))))))))))))
def m__law_are_words_right : ME Fl :=
    seqS (asgS 1 (b2 addA (rt (.int 1)) (clI 1 (runI 5 m__law_draw) 0 (aCons (rt (.int 60)) (aNil)))))
    (seqS (asgS 2 (clI 1 (runI 2 m__law_any) 0 (aCons (fr (bd (aCons (rt (.int 0)) (aCons (nm 1) (aCons (clI 1 (runI 5 m__law_draw) 0 (aCons (b2 addA (nm 1) (rt (.int 1))) (aNil))) (aCons (clI 1 (runI 5 m__law_draw) 0 (aCons (b2 addA (nm 1) (rt (.int 1))) (aNil))) (aNil))))) fun ds => lf (shortL ds))) (aNil))))
    (seqS (asgS 3 (fr (lcS (rngI rng1D (aCons (nm 1) (aNil))) (gNm 6) (rt true) (cb strD (aCons (cb intD (aCons (b2 gtD (b2 fdivD (b2 mulA (b2 addA (nm 6) (rt (.int 1))) (nm 2)) (nm 1)) (b2 fdivD (b2 mulA (nm 6) (nm 2)) (nm 1))) (aNil))) (aNil))) [6])))
    (seqS (asgS 4 (cl 2 (runP 3 m_even_word) (aCons (nm 1) (aCons (nm 2) (aNil)))))
    (seqS (ifS (tOr' (tNo (tv (cl 2 (runP 2 m__law_is) (aCons (nm 4) (aCons (b2 joinD (rt (.str "")) (nm 3)) (aNil)))))) (tv (b2 neD (b2 countD (nm 4) (rt (.str "1"))) (nm 2)))) (retS (rt (.bool false))) (nxS))
    (seqS (asgS 5 (b2 joinD (rt (.str "")) (fr (lcS (seqI (u1 revD (nm 4))) (gNm 9) (rt true) (u1 (dsub "0" "1" "1" "0") (nm 9)) [9]))))
    (seqS (ifS (tNo (tv (cl 2 (runP 2 m__law_is) (aCons (cl 2 (runP 3 m_even_word) (aCons (nm 1) (aCons (b2 subD (nm 1) (nm 2)) (aNil)))) (aCons (nm 5) (aNil)))))) (retS (rt (.bool false))) (nxS))
    (seqS (ifS (tAn (tv (b2 leD (nm 1) (rt (.int 30)))) (tNo (tv (cl 2 (runP 2 m__law_is) (aCons (cl 2 (runP 3 m_even_word) (aCons (b2 mulA (rt (.int 2)) (nm 1)) (aCons (b2 mulA (rt (.int 2)) (nm 2)) (aNil)))) (aCons (b2 addA (nm 4) (nm 4)) (aNil))))))) (retS (rt (.bool false))) (nxS))
    (seqS (asgS 6 (clI 1 (runI 5 m__law_draw) 0 (aCons (nm 1) (aNil))))
    (seqS (asgS 7 (b2 addA (slS (nm 4) (oSo (nm 6)) (oNo)) (slS (nm 4) (oNo) (oSo (nm 6)))))
    (seqS (ifS (tNo (tv (cl 2 (runP 2 m__law_is) (aCons (fr (bd (aCons (cl 1 (runP 5 m_is_even) (aCons (nm 7) (aNil))) (aCons (cl 1 (runP 5 m_is_even) (aCons (nm 5) (aNil))) (aCons (cl 1 (runP 5 m_is_even) (aCons (u1 revD (nm 4)) (aNil))) (aNil)))) fun ds => lf (shortL ds))) (aCons (b2 mulA (fr (bd (aCons (rt (.bool true)) (aNil)) fun ds => lf (shortL ds))) (rt (.int 3))) (aNil)))))) (retS (rt (.bool false))) (nxS))
    (seqS (asgS 8 (b2 addA (slS (nm 7) (oNo) (oSo (cb max2D (aCons (rt (.int 0)) (aCons (b2 subD (nm 1) (rt (.int 4))) (aNil)))))) (clI 1 (runI 2 m__law_any) 0 (aCons (fr (bd (aCons (rt (.str "1100")) (aCons (rt (.str "0011")) (aCons (rt (.str "110100")) (aNil)))) fun ds => lf (shortL ds))) (aNil)))))
    (retS (cl 2 (runP 2 m__law_is) (aCons (fr (bd (aCons (cl 1 (runP 5 m_is_even) (aCons (slS (nm 8) (oSo (u1 negD (rt (.int 60)))) (oNo)) (aNil))) (aCons (cl 1 (runP 5 m_is_even) (aCons (rt (.str "")) (aNil))) (aCons (cl 1 (runP 5 m_is_even) (aCons (b2 addA (nm 4) (rt (.str "2"))) (aNil))) (aCons (cl 1 (runP 5 m_is_even) (aCons (rt .none) (aNil))) (aNil))))) fun ds => lf (shortL ds))) (aCons (b2 mulA (fr (bd (aCons (rt (.bool false)) (aNil)) fun ds => lf (shortL ds))) (rt (.int 4))) (aNil))))))))))))))))
def m_law : ME Fl :=
    seqS (asgO 1 (clS (runS 3 m__law_hand) 0))
    (seqS (ifS (tNo (tv (cl 2 (runP 2 m__law_is) (aCons (fr (bd (aCons (cl 3 (runP 9 m_floor_bill) (aCons (rt (.int 5)) (aCons (rt (.int 3)) (aCons (rt (.int 5)) (aNil))))) (aCons (cl 3 (runP 9 m_floor_bill) (aCons (rt (.int 3)) (aCons (rt (.int 5)) (aCons (rt (.int 3)) (aNil))))) (aCons (cl 2 (runP 3 m_even_word) (aCons (rt (.int 5)) (aCons (rt (.int 2)) (aNil)))) (aNil)))) fun ds => lf (shortL ds))) (aCons (fr (bd (aCons (rt (.int 4)) (aCons (rt (.int 4)) (aCons (rt (.str "00101")) (aNil)))) fun ds => lf (shortL ds))) (aNil)))))) (retS (rt (.bool false))) (nxS))
    (seqS (foS (rngI rng1D (aCons (rt (.int 5)) (aNil))) (gNm 2) (ifS (tOr' (tNo (tv (clI 0 (runI 12 m__law_are_bills_right) 1 (aNil)))) (tOr' (tNo (tv (clI 0 (runI 18 m__law_are_floors_right) 1 (aNil)))) (tNo (tv (clI 0 (runI 10 m__law_are_words_right) 1 (aNil)))))) (retS (rt (.bool false))) (nxS)))
    (retS (rt (.bool true)))))
section
variable {P : Program} {w : World} {K : PySem.W.Frag} {mg : Str → Option Value} {base : Heap}
theorem ok_is_integer (T : Env K mg) : FnG P w K mg base 1 T.a_is_integer T.fd_is_integer ["thing"] (spP K 1 (runP 1 m_is_integer)) :=
  fn_p T.F_is_integer sc_is_integer m_is_integer (by decide) (fun cdv A outer s H E room gd =>
    b_one (s_ret (v_and (e_isi k_int T.z_isinstance T.z_int (by decide +kernel) (e_nm 0)) (v_one (v_not (e_isi k_bool T.z_isinstance T.z_bool (by decide +kernel) (e_nm 0)))))))
theorem ok_is_within (T : Env K mg) : FnG P w K mg base 2 T.a_is_within T.fd_is_within ["thing", "least", "most"] (spP K 3 (runP 3 m_is_within)) :=
  fn_p T.F_is_within sc_is_within m_is_within (by decide) (fun cdv A outer s H E room gd =>
    b_one (s_ret (v_and (e_call (ok_is_integer T) (room.mono (by decide)) gd T.g_is_integer T.F_is_integer.kp T.b_is_integer (a_cons (e_nm 0) (a_nil))) (v_one (e_chain op_le od_le op_le od_le (e_nm 1) (e_nm 0) (e_nm 2))))))
theorem ok_is_tuple_of (T : Env K mg) : FnG P w K mg base 1 T.a_is_tuple_of T.fd_is_tuple_of ["thing", "size"] (spP K 2 (runP 2 m_is_tuple_of)) :=
  fn_p T.F_is_tuple_of sc_is_tuple_of m_is_tuple_of (by decide) (fun cdv A outer s H E room gd =>
    b_one (s_ret (v_and (e_isi k_tup T.z_isinstance T.z_tuple (by decide +kernel) (e_nm 0)) (v_one (e_cmp (op_eqA room.units) od_eq (e_len T.z_len (a_cons (e_nm 0) (a_nil))) (e_nm 1) (nomark _))))))
theorem ok_common_part (T : Env K mg) : FnG P w K mg base 1 T.a_common_part T.fd_common_part ["one", "other"] (spP K 2 (runP 2 m_common_part)) :=
  fn_p T.F_common_part sc_common_part m_common_part (by decide) (fun cdv A outer s H E room gd =>
    b_cons (s_par2 0 1 (by decide) (by decide) rfl sc_common_part.nd rfl rfl (by decide) rfl rfl (m_v (e_abs T.z_abs (a_cons (e_nm 0) (a_nil))) (m_v (e_abs T.z_abs (a_cons (e_nm 1) (a_nil))) (m_nil))))
    (b_cons (s_while PassesOwn.never (t_cmp (op_neA room.units) od_ne (e_nm 1) (e_int) (nomark _)) (b_one (s_par2 0 1 (by decide) (by decide) rfl sc_common_part.nd rfl rfl (by decide) rfl rfl (m_v (e_nm 1) (m_v (e_sub (e_nm 0) (e_mul (e_nm 1) (e_fdiv (e_nm 0) (e_nm 1)))) (m_nil))))))
    (b_one (s_ret (e_nm 0)))))
theorem ok_is_number (T : Env K mg) : FnG P w K mg base 3 T.a_is_number T.fd_is_number ["thing"] (spP K 1 (runP 1 m_is_number)) :=
  fn_p T.F_is_number sc_is_number m_is_number (by decide) (fun cdv A outer s H E room gd =>
    b_one (s_ret (e_call (ok_is_within T) (room.mono (by decide)) gd T.g_is_within T.F_is_within.kp T.b_is_within (a_cons (e_nm 0) (a_cons (e_int) (a_cons (e_gint T.c_MOST_NUMBER.2) (a_nil)))))))
theorem ok_check_number (T : Env K mg) : FnG P w K mg base 4 T.a_check_number T.fd_check_number ["number"] (spP K 1 (runP 1 m_check_number)) :=
  fn_p T.F_check_number sc_check_number m_check_number (by decide) (fun cdv A outer s H E room gd =>
    b_one (s_if (t_not (t_val (e_call (ok_is_number T) (room.mono (by decide)) gd T.g_is_number T.F_is_number.kp T.b_is_number (a_cons (e_nm 0) (a_nil))))) (b_one (s_never)) (b_nil)))
theorem ok_rest_of (T : Env K mg) : FnG P w K mg base 1 T.a_rest_of T.fd_rest_of ["number", "part"] (spP K 2 (runP 2 m_rest_of)) :=
  fn_p T.F_rest_of sc_rest_of m_rest_of (by decide) (fun cdv A outer s H E room gd =>
    b_one (s_ret (e_sub (e_nm 0) (e_mul (e_nm 1) (e_fdiv (e_nm 0) (e_nm 1))))))
theorem ok_is_floor (T : Env K mg) : FnG P w K mg base 3 T.a_is_floor T.fd_is_floor ["thing"] (spP K 1 (runP 1 m_is_floor)) :=
  fn_p T.F_is_floor sc_is_floor m_is_floor (by decide) (fun cdv A outer s H E room gd =>
    b_cons (s_if (t_of_w (w_or (t_not (t_val (e_call (ok_is_tuple_of T) (room.mono (by decide)) gd T.g_is_tuple_of T.F_is_tuple_of.kp T.b_is_tuple_of (a_cons (e_nm 0) (a_cons (e_int) (a_nil)))))) (w_or1 (t_not (t_val (e_call (ok_is_within T) (room.mono (by decide)) gd T.g_is_within T.F_is_within.kp T.b_is_within (a_cons (e_ix (e_nm 0) (e_int)) (a_cons (e_int) (a_cons (e_gint T.c_MOST_FLOOR_floors.2) (a_nil)))))))))) (b_one (s_ret (e_bool))) (b_nil))
    (b_one (s_ret (v_and (e_call (ok_is_within T) (room.mono (by decide)) gd T.g_is_within T.F_is_within.kp T.b_is_within (a_cons (e_ix (e_nm 0) (e_int)) (a_cons (e_int) (a_cons (e_ix (e_nm 0) (e_int)) (a_nil))))) (v_one (e_call (ok_is_within T) (room.mono (by decide)) gd T.g_is_within T.F_is_within.kp T.b_is_within (a_cons (e_ix (e_nm 0) (e_int)) (a_cons (e_int) (a_cons (e_gint T.c_MOST_FLOOR_floors.2) (a_nil))))))))))
theorem ok_check_floor (T : Env K mg) : FnG P w K mg base 4 T.a_check_floor T.fd_check_floor ["floor"] (spP K 1 (runP 1 m_check_floor)) :=
  fn_p T.F_check_floor sc_check_floor m_check_floor (by decide) (fun cdv A outer s H E room gd =>
    b_one (s_if (t_not (t_val (e_call (ok_is_floor T) (room.mono (by decide)) gd T.g_is_floor T.F_is_floor.kp T.b_is_floor (a_cons (e_nm 0) (a_nil))))) (b_one (s_never)) (b_nil)))
theorem ok_raw_at (T : Env K mg) : FnG P w K mg base 1 T.a_raw_at T.fd_raw_at ["floor", "number"] (spP K 2 (runP 2 m_raw_at)) :=
  fn_p T.F_raw_at sc_raw_at m_raw_at (by decide) (fun cdv A outer s H E room gd =>
    b_one (s_ret (e_fdiv (e_add (e_mul (e_nm 1) (e_ix (e_nm 0) (e_int))) (e_ix (e_nm 0) (e_int))) (e_ix (e_nm 0) (e_int)))))
theorem ok_floor_at (T : Env K mg) : FnG P w K mg base 5 T.a_floor_at T.fd_floor_at ["floor", "number"] (spP K 2 (runP 2 m_floor_at)) :=
  fn_p T.F_floor_at sc_floor_at m_floor_at (by decide) (fun cdv A outer s H E room gd =>
    b_cons (s_expr (e_call (ok_check_floor T) (room.mono (by decide)) gd T.g_check_floor T.F_check_floor.kp T.b_check_floor (a_cons (e_nm 0) (a_nil))))
    (b_cons (s_expr (e_call (ok_check_number T) (room.mono (by decide)) gd T.g_check_number T.F_check_number.kp T.b_check_number (a_cons (e_nm 1) (a_nil))))
    (b_one (s_ret (e_call (ok_raw_at T) (room.mono (by decide)) gd T.g_raw_at T.F_raw_at.kp T.b_raw_at (a_cons (e_nm 0) (a_cons (e_nm 1) (a_nil))))))))
theorem ok_raw_has (T : Env K mg) : FnG P w K mg base 2 T.a_raw_has T.fd_raw_has ["floor", "number"] (spP K 2 (runP 3 m_raw_has)) :=
  fn_p T.F_raw_has sc_raw_has m_raw_has (by decide) (fun cdv A outer s H E room gd =>
    b_cons (s_asg 2 (by decide) sc_raw_has.nd rfl (by first | exact Or.inl rfl | exact Or.inr rfl) (e_neg (e_fdiv (e_sub (e_ix (e_nm 0) (e_int)) (e_mul (e_nm 1) (e_ix (e_nm 0) (e_int)))) (e_ix (e_nm 0) (e_int)))))
    (b_one (s_ret (v_and (e_cmp op_ge od_ge (e_nm 2) (e_int) (nomark _)) (v_one (e_cmp (op_eqA room.units) od_eq (e_call (ok_raw_at T) (room.mono (by decide)) gd T.g_raw_at T.F_raw_at.kp T.b_raw_at (a_cons (e_nm 0) (a_cons (e_nm 2) (a_nil)))) (e_nm 1) (nomark _)))))))
theorem ok_floor_has (T : Env K mg) : FnG P w K mg base 5 T.a_floor_has T.fd_floor_has ["floor", "number"] (spP K 2 (runP 2 m_floor_has)) :=
  fn_p T.F_floor_has sc_floor_has m_floor_has (by decide) (fun cdv A outer s H E room gd =>
    b_cons (s_expr (e_call (ok_check_floor T) (room.mono (by decide)) gd T.g_check_floor T.F_check_floor.kp T.b_check_floor (a_cons (e_nm 0) (a_nil))))
    (b_cons (s_expr (e_call (ok_check_number T) (room.mono (by decide)) gd T.g_check_number T.F_check_number.kp T.b_check_number (a_cons (e_nm 1) (a_nil))))
    (b_one (s_ret (e_call (ok_raw_has T) (room.mono (by decide)) gd T.g_raw_has T.F_raw_has.kp T.b_raw_has (a_cons (e_nm 0) (a_cons (e_nm 1) (a_nil))))))))
theorem ok_steps_of (T : Env K mg) : FnG P w K mg base 5 T.a_steps_of T.fd_steps_of ["floor"] (spP K 1 (runP 3 m_steps_of)) :=
  fn_p T.F_steps_of sc_steps_of m_steps_of (by decide) (fun cdv A outer s H E room gd =>
    b_cons (s_expr (e_call (ok_check_floor T) (room.mono (by decide)) gd T.g_check_floor T.F_check_floor.kp T.b_check_floor (a_cons (e_nm 0) (a_nil))))
    (b_cons (s_asg 1 (by decide) sc_steps_of.nd rfl (by first | exact Or.inl rfl | exact Or.inr rfl) (e_fdiv (e_ix (e_nm 0) (e_int)) (e_call (ok_common_part T) (room.mono (by decide)) gd T.g_common_part T.F_common_part.kp T.b_common_part (a_cons (e_ix (e_nm 0) (e_int)) (a_cons (e_ix (e_nm 0) (e_int)) (a_nil))))))
    (b_one (s_ret (e_tuple T.z_tuple (a_cons (e_of_n (n_lc (own := [("place", 2)])  rfl sc_steps_of.nd (i_rng1 T.z_range (a_cons (e_nm 1) (a_nil))) (blkOk_by (by first | rfl | decide +kernel)) (fun _ _ _ _ _ => g_nm 2 (by decide) sc_steps_of.nd rfl (by first | exact Or.inl rfl | exact Or.inr rfl)) (fun _ _ _ _ _ => ts_nil) (fun _ _ _ _ _ => e_sub (e_call (ok_raw_at T) (room.mono (by decide)) gd T.g_raw_at T.F_raw_at.kp T.b_raw_at (a_cons (e_nm 0) (a_cons (e_add (e_nm 2) (e_int)) (a_nil)))) (e_call (ok_raw_at T) (room.mono (by decide)) gd T.g_raw_at T.F_raw_at.kp T.b_raw_at (a_cons (e_nm 0) (a_cons (e_nm 2) (a_nil))))) (by decide) (by decide))) (a_nil)))))))
theorem ok_floor_sum (T : Env K mg) : FnG P w K mg base 5 T.a_floor_sum T.fd_floor_sum ["many", "floor"] (spP K 2 (runP 8 m_floor_sum)) :=
  fn_p T.F_floor_sum sc_floor_sum m_floor_sum (by decide) (fun cdv A outer s H E room gd =>
    b_cons (s_if (t_not (t_val (e_call (ok_is_within T) (room.mono (by decide)) gd T.g_is_within T.F_is_within.kp T.b_is_within (a_cons (e_nm 0) (a_cons (e_int) (a_cons (e_gint T.c_MOST_SUMMED_FLOORS.2) (a_nil))))))) (b_one (s_never)) (b_nil))
    (b_cons (s_expr (e_call (ok_check_floor T) (room.mono (by decide)) gd T.g_check_floor T.F_check_floor.kp T.b_check_floor (a_cons (e_nm 1) (a_nil))))
    (b_cons (s_un (e_nm 1) (g_tup rfl (gs_cons (g_nm 2 (by decide) sc_floor_sum.nd rfl (by first | exact Or.inl rfl | exact Or.inr rfl)) (gs_cons (g_nm 3 (by decide) sc_floor_sum.nd rfl (by first | exact Or.inl rfl | exact Or.inr rfl)) (gs_cons (g_nm 4 (by decide) sc_floor_sum.nd rfl (by first | exact Or.inl rfl | exact Or.inr rfl)) (gs_nil))))))
    (b_cons (s_par2 5 6 (by decide) (by decide) rfl sc_floor_sum.nd rfl rfl (by decide) rfl rfl (m_v (e_int) (m_v (e_nm 0) (m_nil))))
    (b_cons (s_while PassesOwn.never (t_cmp op_gt od_gt (e_nm 6) (e_int) (nomark _)) (b_cons (s_augAdd 5 (by decide) sc_floor_sum.nd rfl (by first | exact Or.inl rfl | exact Or.inr rfl) (e_add (e_mul (e_fdiv (e_mul (e_sub (e_nm 6) (e_int)) (e_nm 6)) (e_int)) (e_fdiv (e_nm 2) (e_nm 3))) (e_mul (e_nm 6) (e_fdiv (e_nm 4) (e_nm 3)))))
    (b_cons (s_par2 2 4 (by decide) (by decide) rfl sc_floor_sum.nd rfl rfl (by decide) rfl rfl (m_v (e_call (ok_rest_of T) (room.mono (by decide)) gd T.g_rest_of T.F_rest_of.kp T.b_rest_of (a_cons (e_nm 2) (a_cons (e_nm 3) (a_nil)))) (m_v (e_call (ok_rest_of T) (room.mono (by decide)) gd T.g_rest_of T.F_rest_of.kp T.b_rest_of (a_cons (e_nm 4) (a_cons (e_nm 3) (a_nil)))) (m_nil))))
    (b_cons (s_asg 7 (by decide) sc_floor_sum.nd rfl (by first | exact Or.inl rfl | exact Or.inr rfl) (e_add (e_mul (e_nm 2) (e_nm 6)) (e_nm 4)))
    (b_cons (s_par2 6 4 (by decide) (by decide) rfl sc_floor_sum.nd rfl rfl (by decide) rfl rfl (m_v (e_fdiv (e_nm 7) (e_nm 3)) (m_v (e_call (ok_rest_of T) (room.mono (by decide)) gd T.g_rest_of T.F_rest_of.kp T.b_rest_of (a_cons (e_nm 7) (a_cons (e_nm 3) (a_nil)))) (m_nil))))
    (b_cons (s_par2 2 3 (by decide) (by decide) rfl sc_floor_sum.nd rfl rfl (by decide) rfl rfl (m_v (e_nm 3) (m_v (e_nm 2) (m_nil))))
    (b_one (s_if (t_cmp (op_eqA room.units) od_eq (e_nm 3) (e_int) (nomark _)) (b_one (s_asg 6 (by decide) sc_floor_sum.nd rfl (by first | exact Or.inl rfl | exact Or.inr rfl) (e_int))) (b_nil)))))))))
    (b_one (s_ret (e_nm 5))))))))
theorem ok_even_word (T : Env K mg) : FnG P w K mg base 3 T.a_even_word T.fd_even_word ["many", "ones"] (spP K 2 (runP 3 m_even_word)) :=
  fn_p T.F_even_word sc_even_word m_even_word (by decide) (fun cdv A outer s H E room gd =>
    b_cons (s_if (t_not (t_val (e_call (ok_is_within T) (room.mono (by decide)) gd T.g_is_within T.F_is_within.kp T.b_is_within (a_cons (e_nm 0) (a_cons (e_int) (a_cons (e_gint T.c_MOST_WORD.2) (a_nil))))))) (b_one (s_never)) (b_nil))
    (b_cons (s_if (t_not (t_val (e_call (ok_is_within T) (room.mono (by decide)) gd T.g_is_within T.F_is_within.kp T.b_is_within (a_cons (e_nm 1) (a_cons (e_int) (a_cons (e_nm 0) (a_nil))))))) (b_one (s_never)) (b_nil))
    (b_one (s_ret (e_join (e_str) (e_of_n (n_lc (own := [("place", 2)])  rfl sc_even_word.nd (i_rng1 T.z_range (a_cons (e_nm 0) (a_nil))) (blkOk_by (by first | rfl | decide +kernel)) (fun _ _ _ _ _ => g_nm 2 (by decide) sc_even_word.nd rfl (by first | exact Or.inl rfl | exact Or.inr rfl)) (fun _ _ _ _ _ => ts_nil) (fun _ _ _ _ _ => e_str' T.z_str (a_cons (e_sub (e_fdiv (e_mul (e_add (e_nm 2) (e_int)) (e_nm 1)) (e_nm 0)) (e_fdiv (e_mul (e_nm 2) (e_nm 1)) (e_nm 0))) (a_nil))) (by decide) (by decide))))))))
theorem ok_counts_of (T : Env K mg) : FnG P w K mg base 1 T.a_counts_of T.fd_counts_of ["word", "size"] (spP K 2 (runP 3 m_counts_of)) :=
  fn_p T.F_counts_of sc_counts_of m_counts_of (by decide) (fun cdv A outer s H E room gd =>
    b_one (s_ret (e_of_n (n_lc (own := [("place", 2)])  rfl sc_counts_of.nd (i_rng1 T.z_range (a_cons (e_add (e_sub (e_len T.z_len (a_cons (e_nm 0) (a_nil))) (e_nm 1)) (e_int)) (a_nil))) (blkOk_by (by first | rfl | decide +kernel)) (fun _ _ _ _ _ => g_nm 2 (by decide) sc_counts_of.nd rfl (by first | exact Or.inl rfl | exact Or.inr rfl)) (fun _ _ _ _ _ => ts_nil) (fun _ _ _ _ _ => e_count (e_sl (e_nm 0) (o_some (e_nm 2)) (o_some (e_add (e_nm 2) (e_nm 1)))) (e_str)) (by decide) (by decide)))))
theorem ok_is_even (T : Env K mg) : FnG P w K mg base 2 T.a_is_even T.fd_is_even ["thing"] (spP K 1 (runP 5 m_is_even)) :=
  fn_p T.F_is_even sc_is_even m_is_even (by decide) (fun cdv A outer s H E room gd =>
    b_cons (s_if (t_of_w (w_or (t_not (t_val (e_isi k_str T.z_isinstance T.z_str (by decide +kernel) (e_nm 0)))) (w_or (t_not (t_chain op_le od_le op_le od_le (e_int) (e_len T.z_len (a_cons (e_nm 0) (a_nil))) (e_gint T.c_MOST_WORD.2))) (w_or1 (t_not (t_val (e_all rfl T.z_all (a_cons (e_of_n (n_lc (own := [("sign", 2)])  rfl sc_is_even.nd (i_seq (e_nm 0)) (blkOk_by (by first | rfl | decide +kernel)) (fun _ _ _ _ _ => g_nm 2 (by decide) sc_is_even.nd rfl (by first | exact Or.inl rfl | exact Or.inr rfl)) (fun _ _ _ _ _ => ts_nil) (fun _ _ _ _ _ => e_cmp (op_inA (room65 room)) od_in (e_nm 2) (e_str) rfl) (by decide) (by decide))) (a_nil))))))))) (b_one (s_ret (e_bool))) (b_nil))
    (b_cons (s_lcV (own := [("size", 3)]) 1 (by decide) rfl sc_is_even.nd rfl rfl (sw_true rfl rfl rfl (by decide +kernel)) (i_rng2 T.z_range (a_cons (e_int) (a_cons (e_add (e_len T.z_len (a_cons (e_nm 0) (a_nil))) (e_int)) (a_nil)))) (blkOk_by (by first | rfl | decide +kernel)) (fun _ _ _ _ _ => g_nm 3 (by decide) sc_is_even.nd rfl (by first | exact Or.inl rfl | exact Or.inr rfl)) (fun _ _ _ _ _ => ts_nil) (fun _ _ _ _ _ => e_call (ok_counts_of T) (room.mono (by decide)) gd T.g_counts_of T.F_counts_of.kp T.b_counts_of (a_cons (e_nm 0) (a_cons (e_nm 3) (a_nil)))) (by decide) (by decide))
    (b_one (s_ret (e_all rfl T.z_all (a_cons (e_of_n (n_lc (own := [("row", 4)])  rfl sc_is_even.nd (i_seq (e_nm 1)) (blkOk_by (by first | rfl | decide +kernel)) (fun _ _ _ _ _ => g_nm 4 (by decide) sc_is_even.nd rfl (by first | exact Or.inl rfl | exact Or.inr rfl)) (fun _ _ _ _ _ => ts_nil) (fun _ _ _ _ _ => e_cmp op_le od_le (e_sub (e_max rfl T.z_max (a_cons (e_nm 4) (a_nil))) (e_min rfl T.z_min (a_cons (e_nm 4) (a_nil)))) (e_int) (nomark _)) (by decide) (by decide))) (a_nil)))))))
theorem ok_floor_bill (T : Env K mg) : FnG P w K mg base 3 T.a_floor_bill T.fd_floor_bill ["many", "top", "bottom"] (spP K 3 (runP 9 m_floor_bill)) :=
  fn_p T.F_floor_bill sc_floor_bill m_floor_bill (by decide) (fun cdv A outer s H E room gd =>
    b_cons (s_if (t_not (t_val (e_call (ok_is_within T) (room.mono (by decide)) gd T.g_is_within T.F_is_within.kp T.b_is_within (a_cons (e_nm 0) (a_cons (e_int) (a_cons (e_gint T.c_MOST_FLOOR_bills.2) (a_nil))))))) (b_one (s_never)) (b_nil))
    (b_cons (s_if (t_not (t_val (e_call (ok_is_within T) (room.mono (by decide)) gd T.g_is_within T.F_is_within.kp T.b_is_within (a_cons (e_nm 1) (a_cons (e_int) (a_cons (e_gint T.c_MOST_FLOOR_bills.2) (a_nil))))))) (b_one (s_never)) (b_nil))
    (b_cons (s_if (t_not (t_val (e_call (ok_is_within T) (room.mono (by decide)) gd T.g_is_within T.F_is_within.kp T.b_is_within (a_cons (e_nm 2) (a_cons (e_int) (a_cons (e_gint T.c_MOST_FLOOR_bills.2) (a_nil))))))) (b_one (s_never)) (b_nil))
    (b_cons (s_parG rfl (ns_cons 3 (by decide) sc_floor_bill.nd rfl (by first | exact Or.inl rfl | exact Or.inr rfl) (ns_cons 4 (by decide) sc_floor_bill.nd rfl (by first | exact Or.inl rfl | exact Or.inr rfl) (ns_cons 5 (by decide) sc_floor_bill.nd rfl (by first | exact Or.inl rfl | exact Or.inr rfl) (ns_cons 6 (by decide) sc_floor_bill.nd rfl (by first | exact Or.inl rfl | exact Or.inr rfl) (ns_cons 7 (by decide) sc_floor_bill.nd rfl (by first | exact Or.inl rfl | exact Or.inr rfl) (ns_nil)))))) (m_v (e_int) (m_v (e_nm 0) (m_v (e_nm 1) (m_v (e_nm 2) (m_v (e_int) (m_nil)))))))
    (b_cons (s_while PassesOwn.never (t_cmp op_gt od_gt (e_nm 4) (e_int) (nomark _)) (b_cons (s_asg 3 (by decide) sc_floor_bill.nd rfl (by first | exact Or.inl rfl | exact Or.inr rfl) (e_add (e_add (e_nm 3) (e_mul (e_fdiv (e_nm 5) (e_nm 6)) (e_fdiv (e_mul (e_nm 4) (e_sub (e_nm 4) (e_int))) (e_int)))) (e_mul (e_fdiv (e_nm 7) (e_nm 6)) (e_nm 4))))
    (b_cons (s_par2 5 7 (by decide) (by decide) rfl sc_floor_bill.nd rfl rfl (by decide) rfl rfl (m_v (e_sub (e_nm 5) (e_mul (e_nm 6) (e_fdiv (e_nm 5) (e_nm 6)))) (m_v (e_sub (e_nm 7) (e_mul (e_nm 6) (e_fdiv (e_nm 7) (e_nm 6)))) (m_nil))))
    (b_cons (s_asg 8 (by decide) sc_floor_bill.nd rfl (by first | exact Or.inl rfl | exact Or.inr rfl) (e_add (e_mul (e_nm 5) (e_nm 4)) (e_nm 7)))
    (b_cons (s_if (t_cmp op_ltA od_lt (e_nm 8) (e_nm 6) (nomark _)) (b_one (s_ret (e_nm 3))) (b_nil))
    (b_cons (s_par2 4 7 (by decide) (by decide) rfl sc_floor_bill.nd rfl rfl (by decide) rfl rfl (m_v (e_fdiv (e_nm 8) (e_nm 6)) (m_v (e_sub (e_nm 8) (e_mul (e_nm 6) (e_fdiv (e_nm 8) (e_nm 6)))) (m_nil))))
    (b_one (s_par2 5 6 (by decide) (by decide) rfl sc_floor_bill.nd rfl rfl (by decide) rfl rfl (m_v (e_nm 6) (m_v (e_nm 5) (m_nil)))))))))))
    (b_one (s_ret (e_nm 3))))))))
theorem ok__law_hand (T : Env K mg) : FnG P w K mg base 1 T.a__law_hand T.fd__law_hand ["script"] (spS K (runS 3 m__law_hand)) :=
  fn_s T.F__law_hand sc__law_hand m__law_hand (by decide) (fun cdv A outer s H E room gd =>
    b_cons (s_lcV (own := [("cell", 2)]) 1 (by decide) rfl sc__law_hand.nd rfl rfl (sw_true rfl rfl rfl (by decide +kernel)) (i_seq (e_of_n (n_slSc 0))) (blkOk_by (by first | rfl | decide +kernel)) (fun _ _ _ _ _ => g_nm 2 (by decide) sc__law_hand.nd rfl (by first | exact Or.inl rfl | exact Or.inr rfl)) (fun _ _ _ _ _ => ts_nil) (fun _ _ _ _ _ => e_abs T.z_abs (a_cons (e_int' T.z_int (a_cons (e_nm 2) (a_nil))) (a_nil))) (by decide) (by decide))
    (b_one (s_retN (n_lst (a_cons (e_nm 1) (a_cons (e_int) (a_cons (e_int) (a_cons (e_add (e_int) (e_mul (e_int) (e_len T.z_len (a_cons (e_nm 1) (a_nil))))) (a_cons (e_int) (a_nil))))))))))
theorem ok__law_draw (T : Env K mg) : FnG P w K mg base 1 T.a__law_draw T.fd__law_draw ["hand", "many"] (spI K 1 (runI 5 m__law_draw)) :=
  fn_i T.F__law_draw sc__law_draw m__law_draw (by decide) (by decide) (fun cdv A outer s H E room gd =>
    b_cons (s_if (t_of_w (w_and (t_cmp (op_eqA room.units) od_eq (e_ixO 0 (e_int)) (e_int) (nomark _)) (w_and1 (t_cmp op_ltA od_lt (e_ixO 0 (e_int)) (e_len T.z_len (a_cons (e_ixO 0 (e_int)) (a_nil))) (nomark _))))) (b_cons (s_asg 2 (by decide) sc__law_draw.nd rfl (by first | exact Or.inl rfl | exact Or.inr rfl) (e_ix (e_ixO 0 (e_int)) (e_ixO 0 (e_int))))
    (b_cons (s_setO 0 (e_add (e_ixO 0 (e_int)) (e_int)) (e_int))
    (b_cons (s_setO 0 (e_mod (e_int' T.z_int (a_cons (e_add (e_add (e_mul (e_ixO 0 (e_int)) (e_int)) (e_mul (e_nm 2) (e_int))) (e_int)) (a_nil))) (e_int)) (e_int))
    (b_one (s_if (t_cmp op_ge od_ge (e_nm 2) (e_pow (e_int) (e_int)) (nomark _)) (b_one (s_setO 0 (e_nm 2) (e_int))) (b_nil)))))) (b_nil))
    (b_cons (s_if (t_cmp op_gt od_gt (e_ixO 0 (e_int)) (e_int) (nomark _)) (b_cons (s_asg 3 (by decide) sc__law_draw.nd rfl (by first | exact Or.inl rfl | exact Or.inr rfl) (e_mod (e_int' T.z_int (a_cons (e_ixO 0 (e_int)) (a_nil))) (e_nm 1)))
    (b_cons (s_setO 0 (e_fdiv (e_ixO 0 (e_int)) (e_nm 1)) (e_int))
    (b_one (s_ret (e_nm 3))))) (b_nil))
    (b_cons (s_setO 0 (e_add (e_ixO 0 (e_int)) (e_int)) (e_int))
    (b_cons (s_asg 4 (by decide) sc__law_draw.nd rfl (by first | exact Or.inl rfl | exact Or.inr rfl) (e_mod (e_int' T.z_int (a_cons (e_mul (e_int' T.z_int (a_cons (e_add (e_ixO 0 (e_int)) (e_mul (e_int) (e_ixO 0 (e_int)))) (a_nil))) (e_int)) (a_nil))) (e_int)))
    (b_cons (s_asg 4 (by decide) sc__law_draw.nd rfl (by first | exact Or.inl rfl | exact Or.inr rfl) (e_mod (e_int' T.z_int (a_cons (e_mul (e_nm 4) (e_add (e_fdiv (e_nm 4) (e_int)) (e_int))) (a_nil))) (e_int)))
    (b_cons (s_asg 4 (by decide) sc__law_draw.nd rfl (by first | exact Or.inl rfl | exact Or.inr rfl) (e_mod (e_int' T.z_int (a_cons (e_mul (e_nm 4) (e_add (e_fdiv (e_nm 4) (e_int)) (e_int))) (a_nil))) (e_int)))
    (b_one (s_ret (e_mod (e_int' T.z_int (a_cons (e_fdiv (e_nm 4) (e_int)) (a_nil))) (e_nm 1))))))))))
theorem ok__law_any (T : Env K mg) : FnG P w K mg base 2 T.a__law_any T.fd__law_any ["hand", "some"] (spI K 1 (runI 2 m__law_any)) :=
  fn_i T.F__law_any sc__law_any m__law_any (by decide) (by decide) (fun cdv A outer s H E room gd =>
    b_one (s_ret (e_ix (e_nm 1) (e_callI 0 (ok__law_draw T) (room.mono (by decide)) gd T.g__law_draw T.F__law_draw.kp T.b__law_draw (a_cons (e_len T.z_len (a_cons (e_nm 1) (a_nil))) (a_nil))))))
theorem ok__law_is (T : Env K mg) : FnG P w K mg base 1 T.a__law_is T.fd__law_is ["told", "due"] (spP K 2 (runP 2 m__law_is)) :=
  fn_p T.F__law_is sc__law_is m__law_is (by decide) (fun cdv A outer s H E room gd =>
    b_one (s_ret (e_cmp (op_eqA room.units) od_eq (e_repr room gd T.z_repr (a_cons (e_nm 0) (a_nil))) (e_repr room gd T.z_repr (a_cons (e_nm 1) (a_nil))) (nomark _))))
theorem ok__law_common (T : Env K mg) : FnG P w K mg base 1 T.a__law_common T.fd__law_common ["one", "other"] (spP K 2 (runP 2 m__law_common)) :=
  fn_p T.F__law_common sc__law_common m__law_common (by decide) (fun cdv A outer s H E room gd =>
    b_cons (s_while PassesOwn.never (t_cmp op_gt od_gt (e_nm 1) (e_int) (nomark _)) (b_one (s_par2 0 1 (by decide) (by decide) rfl sc__law_common.nd rfl rfl (by decide) rfl rfl (m_v (e_nm 1) (m_v (e_mod (e_int' T.z_int (a_cons (e_nm 0) (a_nil))) (e_nm 1)) (m_nil))))))
    (b_one (s_ret (e_nm 0))))
theorem ok__law_great (T : Env K mg) : FnG P w K mg base 3 T.a__law_great T.fd__law_great ["hand"] (spI K 0 (runI 1 m__law_great)) :=
  fn_i T.F__law_great sc__law_great m__law_great (by decide) (by decide) (fun cdv A outer s H E room gd =>
    b_one (s_ret (e_add (e_int) (e_callI 0 (ok__law_draw T) (room.mono (by decide)) gd T.g__law_draw T.F__law_draw.kp T.b__law_draw (a_cons (e_callI 0 (ok__law_any T) (room.mono (by decide)) gd T.g__law_any T.F__law_any.kp T.b__law_any (a_cons (e_of_n (n_lst (a_cons (e_int) (a_cons (e_int) (a_cons (e_pow (e_int) (e_int)) (a_cons (e_pow (e_int) (e_int)) (a_nil))))))) (a_nil))) (a_nil))))))
theorem ok__law_are_bills_right (T : Env K mg) : FnG P w K mg base 4 T.a__law_are_bills_right T.fd__law_are_bills_right ["hand"] (spI K 0 (runI 12 m__law_are_bills_right)) :=
  fn_i T.F__law_are_bills_right sc__law_are_bills_right m__law_are_bills_right (by decide) (by decide) (fun cdv A outer s H E room gd =>
    b_cons (s_par2 1 2 (by decide) (by decide) rfl sc__law_are_bills_right.nd rfl rfl (by decide) rfl rfl (m_v (e_callI 0 (ok__law_great T) (room.mono (by decide)) gd T.g__law_great T.F__law_great.kp T.b__law_great (a_nil)) (m_v (e_callI 0 (ok__law_great T) (room.mono (by decide)) gd T.g__law_great T.F__law_great.kp T.b__law_great (a_nil)) (m_nil))))
    (b_cons (s_asg 3 (by decide) sc__law_are_bills_right.nd rfl (by first | exact Or.inl rfl | exact Or.inr rfl) (e_call (ok__law_common T) (room.mono (by decide)) gd T.g__law_common T.F__law_common.kp T.b__law_common (a_cons (e_nm 1) (a_cons (e_nm 2) (a_nil)))))
    (b_cons (s_asg 4 (by decide) sc__law_are_bills_right.nd rfl (by first | exact Or.inl rfl | exact Or.inr rfl) (e_fdiv (e_sub (e_add (e_mul (e_sub (e_nm 1) (e_int)) (e_sub (e_nm 2) (e_int))) (e_nm 3)) (e_int)) (e_int)))
    (b_cons (s_if (t_not (t_val (e_call (ok__law_is T) (room.mono (by decide)) gd T.g__law_is T.F__law_is.kp T.b__law_is (a_cons (e_of_n (n_lst (a_cons (e_call (ok_floor_bill T) (room.mono (by decide)) gd T.g_floor_bill T.F_floor_bill.kp T.b_floor_bill (a_cons (e_nm 2) (a_cons (e_nm 1) (a_cons (e_nm 2) (a_nil))))) (a_cons (e_call (ok_floor_bill T) (room.mono (by decide)) gd T.g_floor_bill T.F_floor_bill.kp T.b_floor_bill (a_cons (e_nm 1) (a_cons (e_nm 2) (a_cons (e_nm 1) (a_nil))))) (a_nil))))) (a_cons (e_of_n (n_lst (a_cons (e_nm 4) (a_cons (e_nm 4) (a_nil))))) (a_nil)))))) (b_one (s_ret (e_bool))) (b_nil))
    (b_cons (s_asg 5 (by decide) sc__law_are_bills_right.nd rfl (by first | exact Or.inl rfl | exact Or.inr rfl) (e_callI 0 (ok__law_draw T) (room.mono (by decide)) gd T.g__law_draw T.F__law_draw.kp T.b__law_draw (a_cons (e_min2 rfl T.z_min (a_cons (e_pow (e_int) (e_int)) (a_cons (e_fdiv (e_mul (e_pow (e_int) (e_int)) (e_nm 2)) (e_nm 1)) (a_nil)))) (a_nil))))
    (b_cons (s_asg 6 (by decide) sc__law_are_bills_right.nd rfl (by first | exact Or.inl rfl | exact Or.inr rfl) (e_fdiv (e_mul (e_nm 5) (e_nm 1)) (e_nm 2)))
    (b_cons (s_if (t_cmp op_ltA od_lt (e_nm 6) (e_pow (e_int) (e_int)) (nomark _)) (b_cons (s_asg 7 (by decide) sc__law_are_bills_right.nd rfl (by first | exact Or.inl rfl | exact Or.inr rfl) (e_add (e_call (ok_floor_bill T) (room.mono (by decide)) gd T.g_floor_bill T.F_floor_bill.kp T.b_floor_bill (a_cons (e_add (e_nm 5) (e_int)) (a_cons (e_nm 1) (a_cons (e_nm 2) (a_nil))))) (e_call (ok_floor_bill T) (room.mono (by decide)) gd T.g_floor_bill T.F_floor_bill.kp T.b_floor_bill (a_cons (e_add (e_nm 6) (e_int)) (a_cons (e_nm 2) (a_cons (e_nm 1) (a_nil)))))))
    (b_one (s_if (t_cmp (op_neA room.units) od_ne (e_nm 7) (e_add (e_mul (e_nm 5) (e_nm 6)) (e_fdiv (e_nm 5) (e_fdiv (e_nm 2) (e_nm 3)))) (nomark _)) (b_one (s_ret (e_bool))) (b_nil)))) (b_nil))
    (b_cons (s_par2 8 9 (by decide) (by decide) rfl sc__law_are_bills_right.nd rfl rfl (by decide) rfl rfl (m_v (e_callI 0 (ok__law_draw T) (room.mono (by decide)) gd T.g__law_draw T.F__law_draw.kp T.b__law_draw (a_cons (e_add (e_pow (e_int) (e_int)) (e_int)) (a_nil))) (m_v (e_callI 0 (ok__law_draw T) (room.mono (by decide)) gd T.g__law_draw T.F__law_draw.kp T.b__law_draw (a_cons (e_int) (a_nil))) (m_nil))))
    (b_cons (s_if (t_cmp op_le od_le (e_add (e_nm 1) (e_mul (e_nm 9) (e_nm 2))) (e_pow (e_int) (e_int)) (nomark _)) (b_cons (s_asg 10 (by decide) sc__law_are_bills_right.nd rfl (by first | exact Or.inl rfl | exact Or.inr rfl) (e_sub (e_call (ok_floor_bill T) (room.mono (by decide)) gd T.g_floor_bill T.F_floor_bill.kp T.b_floor_bill (a_cons (e_nm 8) (a_cons (e_add (e_nm 1) (e_mul (e_nm 9) (e_nm 2))) (a_cons (e_nm 2) (a_nil))))) (e_call (ok_floor_bill T) (room.mono (by decide)) gd T.g_floor_bill T.F_floor_bill.kp T.b_floor_bill (a_cons (e_nm 8) (a_cons (e_nm 1) (a_cons (e_nm 2) (a_nil)))))))
    (b_one (s_if (t_cmp (op_neA room.units) od_ne (e_nm 10) (e_mul (e_nm 9) (e_fdiv (e_mul (e_nm 8) (e_sub (e_nm 8) (e_int))) (e_int))) (nomark _)) (b_one (s_ret (e_bool))) (b_nil)))) (b_nil))
    (b_cons (s_asg 11 (by decide) sc__law_are_bills_right.nd rfl (by first | exact Or.inl rfl | exact Or.inr rfl) (e_call (ok_floor_bill T) (room.mono (by decide)) gd T.g_floor_bill T.F_floor_bill.kp T.b_floor_bill (a_cons (e_nm 8) (a_cons (e_fdiv (e_nm 1) (e_nm 3)) (a_cons (e_fdiv (e_nm 2) (e_nm 3)) (a_nil))))))
    (b_one (s_ret (e_call (ok__law_is T) (room.mono (by decide)) gd T.g__law_is T.F__law_is.kp T.b__law_is (a_cons (e_of_n (n_lst (a_cons (e_call (ok_floor_bill T) (room.mono (by decide)) gd T.g_floor_bill T.F_floor_bill.kp T.b_floor_bill (a_cons (e_nm 8) (a_cons (e_nm 1) (a_cons (e_nm 2) (a_nil))))) (a_cons (e_call (ok_floor_bill T) (room.mono (by decide)) gd T.g_floor_bill T.F_floor_bill.kp T.b_floor_bill (a_cons (e_int) (a_cons (e_nm 1) (a_cons (e_nm 2) (a_nil))))) (a_nil))))) (a_cons (e_of_n (n_lst (a_cons (e_nm 11) (a_cons (e_int) (a_nil))))) (a_nil))))))))))))))))
theorem ok__law_are_floors_right (T : Env K mg) : FnG P w K mg base 6 T.a__law_are_floors_right T.fd__law_are_floors_right ["hand"] (spI K 0 (runI 18 m__law_are_floors_right)) :=
  fn_i T.F__law_are_floors_right sc__law_are_floors_right m__law_are_floors_right (by decide) (by decide) (fun cdv A outer s H E room gd =>
    b_cons (s_asg 1 (by decide) sc__law_are_floors_right.nd rfl (by first | exact Or.inl rfl | exact Or.inr rfl) (e_add (e_int) (e_callI 0 (ok__law_draw T) (room.mono (by decide)) gd T.g__law_draw T.F__law_draw.kp T.b__law_draw (a_cons (e_int) (a_nil)))))
    (b_cons (s_asg 2 (by decide) sc__law_are_floors_right.nd rfl (by first | exact Or.inl rfl | exact Or.inr rfl) (e_add (e_int) (e_callI 0 (ok__law_draw T) (room.mono (by decide)) gd T.g__law_draw T.F__law_draw.kp T.b__law_draw (a_cons (e_nm 1) (a_nil)))))
    (b_cons (s_par2 3 4 (by decide) (by decide) rfl sc__law_are_floors_right.nd rfl rfl (by decide) rfl rfl (m_v (e_call (ok__law_common T) (room.mono (by decide)) gd T.g__law_common T.F__law_common.kp T.b__law_common (a_cons (e_nm 1) (a_cons (e_nm 2) (a_nil)))) (m_v (e_callI 0 (ok__law_draw T) (room.mono (by decide)) gd T.g__law_draw T.F__law_draw.kp T.b__law_draw (a_cons (e_int) (a_nil))) (m_nil))))
    (b_cons (s_parG rfl (ns_cons 5 (by decide) sc__law_are_floors_right.nd rfl (by first | exact Or.inl rfl | exact Or.inr rfl) (ns_cons 6 (by decide) sc__law_are_floors_right.nd rfl (by first | exact Or.inl rfl | exact Or.inr rfl) (ns_nil))) (m_v (e_tup (a_cons (e_nm 1) (a_cons (e_nm 2) (a_cons (e_nm 4) (a_nil))))) (m_v (e_callI 0 (ok__law_any T) (room.mono (by decide)) gd T.g__law_any T.F__law_any.kp T.b__law_any (a_cons (e_of_n (n_lst (a_cons (e_pow (e_int) (e_int)) (a_cons (e_callI 0 (ok__law_draw T) (room.mono (by decide)) gd T.g__law_draw T.F__law_draw.kp T.b__law_draw (a_cons (e_pow (e_int) (e_int)) (a_nil))) (a_cons (e_callI 0 (ok__law_draw T) (room.mono (by decide)) gd T.g__law_draw T.F__law_draw.kp T.b__law_draw (a_cons (e_int) (a_nil))) (a_nil)))))) (a_nil))) (m_nil))))
    (b_cons (s_asg 7 (by decide) sc__law_are_floors_right.nd rfl (by first | exact Or.inl rfl | exact Or.inr rfl) (e_callI 0 (ok__law_any T) (room.mono (by decide)) gd T.g__law_any T.F__law_any.kp T.b__law_any (a_cons (e_of_n (n_lst (a_cons (e_callI 0 (ok__law_draw T) (room.mono (by decide)) gd T.g__law_draw T.F__law_draw.kp T.b__law_draw (a_cons (e_int) (a_nil))) (a_cons (e_add (e_pow (e_int) (e_int)) (e_callI 0 (ok__law_draw T) (room.mono (by decide)) gd T.g__law_draw T.F__law_draw.kp T.b__law_draw (a_cons (e_pow (e_int) (e_int)) (a_nil)))) (a_nil))))) (a_nil))))
    (b_cons (s_asg 8 (by decide) sc__law_are_floors_right.nd rfl (by first | exact Or.inl rfl | exact Or.inr rfl) (e_fdiv (e_add (e_mul (e_nm 7) (e_nm 1)) (e_nm 4)) (e_nm 2)))
    (b_cons (s_asg 9 (by decide) sc__law_are_floors_right.nd rfl (by first | exact Or.inl rfl | exact Or.inr rfl) (e_of_n (n_lst (a_cons (e_call (ok_floor_at T) (room.mono (by decide)) gd T.g_floor_at T.F_floor_at.kp T.b_floor_at (a_cons (e_nm 5) (a_cons (e_nm 7) (a_nil)))) (a_cons (e_call (ok_floor_at T) (room.mono (by decide)) gd T.g_floor_at T.F_floor_at.kp T.b_floor_at (a_cons (e_nm 5) (a_cons (e_add (e_nm 7) (e_fdiv (e_nm 2) (e_nm 3))) (a_nil)))) (a_cons (e_call (ok_floor_has T) (room.mono (by decide)) gd T.g_floor_has T.F_floor_has.kp T.b_floor_has (a_cons (e_nm 5) (a_cons (e_nm 8) (a_nil)))) (a_nil)))))))
    (b_cons (s_if (t_not (t_val (e_call (ok__law_is T) (room.mono (by decide)) gd T.g__law_is T.F__law_is.kp T.b__law_is (a_cons (e_nm 9) (a_cons (e_of_n (n_lst (a_cons (e_nm 8) (a_cons (e_add (e_nm 8) (e_fdiv (e_nm 1) (e_nm 3))) (a_cons (e_bool) (a_nil)))))) (a_nil)))))) (b_one (s_ret (e_bool))) (b_nil))
    (b_cons (s_asg 10 (by decide) sc__law_are_floors_right.nd rfl (by first | exact Or.inl rfl | exact Or.inr rfl) (e_call (ok_floor_at T) (room.mono (by decide)) gd T.g_floor_at T.F_floor_at.kp T.b_floor_at (a_cons (e_nm 5) (a_cons (e_add (e_nm 7) (e_int)) (a_nil)))))
    (b_cons (s_if (t_of_w (w_and (t_cmp op_gt od_gt (e_nm 10) (e_add (e_nm 8) (e_int)) (nomark _)) (w_and1 (t_cmp op_isNotA od_isNot (e_call (ok_floor_has T) (room.mono (by decide)) gd T.g_floor_has T.F_floor_has.kp T.b_floor_has (a_cons (e_nm 5) (a_cons (e_add (e_nm 8) (e_int)) (a_nil)))) (e_bool) (nomark _))))) (b_one (s_ret (e_bool))) (b_nil))
    (b_cons (s_asg 11 (by decide) sc__law_are_floors_right.nd rfl (by first | exact Or.inl rfl | exact Or.inr rfl) (e_call (ok_steps_of T) (room.mono (by decide)) gd T.g_steps_of T.F_steps_of.kp T.b_steps_of (a_cons (e_nm 5) (a_nil))))
    (b_cons (s_if (t_not (t_val (e_call (ok__law_is T) (room.mono (by decide)) gd T.g__law_is T.F__law_is.kp T.b__law_is (a_cons (e_of_n (n_lst (a_cons (e_len T.z_len (a_cons (e_nm 11) (a_nil))) (a_cons (e_sum rfl T.z_sum (a_cons (e_nm 11) (a_nil))) (a_nil))))) (a_cons (e_of_n (n_lst (a_cons (e_fdiv (e_nm 2) (e_nm 3)) (a_cons (e_fdiv (e_nm 1) (e_nm 3)) (a_nil))))) (a_nil)))))) (b_one (s_ret (e_bool))) (b_nil))
    (b_cons (s_lcV (own := [("at", 16)]) 12 (by decide) rfl sc__law_are_floors_right.nd rfl rfl (sw_true rfl rfl rfl (by decide +kernel)) (i_rng1 T.z_range (a_cons (e_nm 2) (a_nil))) (blkOk_by (by first | rfl | decide +kernel)) (fun _ _ _ _ _ => g_nm 16 (by decide) sc__law_are_floors_right.nd rfl (by first | exact Or.inl rfl | exact Or.inr rfl)) (fun _ _ _ _ _ => ts_nil) (fun _ _ _ _ _ => e_tup (a_cons (e_nm 1) (a_cons (e_nm 2) (a_cons (e_nm 16) (a_nil))))) (by decide) (by decide))
    (b_cons (s_asg 13 (by decide) sc__law_are_floors_right.nd rfl (by first | exact Or.inl rfl | exact Or.inr rfl) (e_sum rfl T.z_sum (a_cons (e_of_n (n_lc (own := [("one", 17)])  rfl sc__law_are_floors_right.nd (i_seq (e_nm 12)) (blkOk_by (by first | rfl | decide +kernel)) (fun _ _ _ _ _ => g_nm 17 (by decide) sc__law_are_floors_right.nd rfl (by first | exact Or.inl rfl | exact Or.inr rfl)) (fun _ _ _ _ _ => ts_nil) (fun _ _ _ _ _ => e_call (ok_floor_at T) (room.mono (by decide)) gd T.g_floor_at T.F_floor_at.kp T.b_floor_at (a_cons (e_nm 17) (a_cons (e_nm 7) (a_nil)))) (by decide) (by decide))) (a_nil))))
    (b_cons (s_asg 14 (by decide) sc__law_are_floors_right.nd rfl (by first | exact Or.inl rfl | exact Or.inr rfl) (e_sum rfl T.z_sum (a_cons (e_of_n (n_lc (own := [("one", 17)])  rfl sc__law_are_floors_right.nd (i_seq (e_nm 12)) (blkOk_by (by first | rfl | decide +kernel)) (fun _ _ _ _ _ => g_nm 17 (by decide) sc__law_are_floors_right.nd rfl (by first | exact Or.inl rfl | exact Or.inr rfl)) (fun _ _ _ _ _ => ts_nil) (fun _ _ _ _ _ => e_call (ok_floor_sum T) (room.mono (by decide)) gd T.g_floor_sum T.F_floor_sum.kp T.b_floor_sum (a_cons (e_nm 6) (a_cons (e_nm 17) (a_nil)))) (by decide) (by decide))) (a_nil))))
    (b_cons (s_if (t_not (t_val (e_call (ok__law_is T) (room.mono (by decide)) gd T.g__law_is T.F__law_is.kp T.b__law_is (a_cons (e_of_n (n_lst (a_cons (e_nm 13) (a_cons (e_nm 14) (a_nil))))) (a_cons (e_of_n (n_lst (a_cons (e_mul (e_nm 7) (e_nm 1)) (a_cons (e_mul (e_nm 1) (e_fdiv (e_mul (e_nm 6) (e_sub (e_nm 6) (e_int))) (e_int))) (a_nil))))) (a_nil)))))) (b_one (s_ret (e_bool))) (b_nil))
    (b_cons (s_asg 15 (by decide) sc__law_are_floors_right.nd rfl (by first | exact Or.inl rfl | exact Or.inr rfl) (e_tup (a_cons (e_nm 1) (a_cons (e_nm 2) (a_cons (e_mod (e_int' T.z_int (a_cons (e_nm 4) (a_nil))) (e_nm 2)) (a_nil))))))
    (b_cons (s_if (t_cmp (op_neA room.units) od_ne (e_call (ok_floor_sum T) (room.mono (by decide)) gd T.g_floor_sum T.F_floor_sum.kp T.b_floor_sum (a_cons (e_nm 6) (a_cons (e_nm 5) (a_nil)))) (e_add (e_call (ok_floor_sum T) (room.mono (by decide)) gd T.g_floor_sum T.F_floor_sum.kp T.b_floor_sum (a_cons (e_nm 6) (a_cons (e_nm 15) (a_nil)))) (e_mul (e_nm 6) (e_fdiv (e_nm 4) (e_nm 2)))) (nomark _)) (b_one (s_ret (e_bool))) (b_nil))
    (b_one (s_ret (e_call (ok__law_is T) (room.mono (by decide)) gd T.g__law_is T.F__law_is.kp T.b__law_is (a_cons (e_call (ok_floor_sum T) (room.mono (by decide)) gd T.g_floor_sum T.F_floor_sum.kp T.b_floor_sum (a_cons (e_nm 6) (a_cons (e_tup (a_cons (e_nm 1) (a_cons (e_nm 2) (a_cons (e_int) (a_nil))))) (a_nil)))) (a_cons (e_call (ok_floor_bill T) (room.mono (by decide)) gd T.g_floor_bill T.F_floor_bill.kp T.b_floor_bill (a_cons (e_nm 6) (a_cons (e_nm 1) (a_cons (e_nm 2) (a_nil))))) (a_nil))))))))))))))))))))))))
theorem ok__law_are_words_right (T : Env K mg) : FnG P w K mg base 4 T.a__law_are_words_right T.fd__law_are_words_right ["hand"] (spI K 0 (runI 10 m__law_are_words_right)) :=
  fn_i T.F__law_are_words_right sc__law_are_words_right m__law_are_words_right (by decide) (by decide) (fun cdv A outer s H E room gd =>
    b_cons (s_asg 1 (by decide) sc__law_are_words_right.nd rfl (by first | exact Or.inl rfl | exact Or.inr rfl) (e_add (e_int) (e_callI 0 (ok__law_draw T) (room.mono (by decide)) gd T.g__law_draw T.F__law_draw.kp T.b__law_draw (a_cons (e_int) (a_nil)))))
    (b_cons (s_asg 2 (by decide) sc__law_are_words_right.nd rfl (by first | exact Or.inl rfl | exact Or.inr rfl) (e_callI 0 (ok__law_any T) (room.mono (by decide)) gd T.g__law_any T.F__law_any.kp T.b__law_any (a_cons (e_of_n (n_lst (a_cons (e_int) (a_cons (e_nm 1) (a_cons (e_callI 0 (ok__law_draw T) (room.mono (by decide)) gd T.g__law_draw T.F__law_draw.kp T.b__law_draw (a_cons (e_add (e_nm 1) (e_int)) (a_nil))) (a_cons (e_callI 0 (ok__law_draw T) (room.mono (by decide)) gd T.g__law_draw T.F__law_draw.kp T.b__law_draw (a_cons (e_add (e_nm 1) (e_int)) (a_nil))) (a_nil))))))) (a_nil))))
    (b_cons (s_lcV (own := [("at", 6)]) 3 (by decide) rfl sc__law_are_words_right.nd rfl rfl (sw_true rfl rfl rfl (by decide +kernel)) (i_rng1 T.z_range (a_cons (e_nm 1) (a_nil))) (blkOk_by (by first | rfl | decide +kernel)) (fun _ _ _ _ _ => g_nm 6 (by decide) sc__law_are_words_right.nd rfl (by first | exact Or.inl rfl | exact Or.inr rfl)) (fun _ _ _ _ _ => ts_nil) (fun _ _ _ _ _ => e_str' T.z_str (a_cons (e_int' T.z_int (a_cons (e_cmp op_gt od_gt (e_fdiv (e_mul (e_add (e_nm 6) (e_int)) (e_nm 2)) (e_nm 1)) (e_fdiv (e_mul (e_nm 6) (e_nm 2)) (e_nm 1)) (nomark _)) (a_nil))) (a_nil))) (by decide) (by decide))
    (b_cons (s_asg 4 (by decide) sc__law_are_words_right.nd rfl (by first | exact Or.inl rfl | exact Or.inr rfl) (e_call (ok_even_word T) (room.mono (by decide)) gd T.g_even_word T.F_even_word.kp T.b_even_word (a_cons (e_nm 1) (a_cons (e_nm 2) (a_nil)))))
    (b_cons (s_if (t_of_w (w_or (t_not (t_val (e_call (ok__law_is T) (room.mono (by decide)) gd T.g__law_is T.F__law_is.kp T.b__law_is (a_cons (e_nm 4) (a_cons (e_join (e_str) (e_nm 3)) (a_nil)))))) (w_or1 (t_cmp (op_neA room.units) od_ne (e_count (e_nm 4) (e_str)) (e_nm 2) (nomark _))))) (b_one (s_ret (e_bool))) (b_nil))
    (b_cons (s_asg 5 (by decide) sc__law_are_words_right.nd rfl (by first | exact Or.inl rfl | exact Or.inr rfl) (e_join (e_str) (e_of_n (n_lc (own := [("sign", 9)])  rfl sc__law_are_words_right.nd (i_seq (e_rev (e_nm 4))) (blkOk_by (by first | rfl | decide +kernel)) (fun _ _ _ _ _ => g_nm 9 (by decide) sc__law_are_words_right.nd rfl (by first | exact Or.inl rfl | exact Or.inr rfl)) (fun _ _ _ _ _ => ts_nil) (fun _ _ _ _ _ => e_dsub2 room (e_nm 9)) (by decide) (by decide)))))
    (b_cons (s_if (t_not (t_val (e_call (ok__law_is T) (room.mono (by decide)) gd T.g__law_is T.F__law_is.kp T.b__law_is (a_cons (e_call (ok_even_word T) (room.mono (by decide)) gd T.g_even_word T.F_even_word.kp T.b_even_word (a_cons (e_nm 1) (a_cons (e_sub (e_nm 1) (e_nm 2)) (a_nil)))) (a_cons (e_nm 5) (a_nil)))))) (b_one (s_ret (e_bool))) (b_nil))
    (b_cons (s_if (t_of_w (w_and (t_cmp op_le od_le (e_nm 1) (e_int) (nomark _)) (w_and1 (t_not (t_val (e_call (ok__law_is T) (room.mono (by decide)) gd T.g__law_is T.F__law_is.kp T.b__law_is (a_cons (e_call (ok_even_word T) (room.mono (by decide)) gd T.g_even_word T.F_even_word.kp T.b_even_word (a_cons (e_mul (e_int) (e_nm 1)) (a_cons (e_mul (e_int) (e_nm 2)) (a_nil)))) (a_cons (e_add (e_nm 4) (e_nm 4)) (a_nil))))))))) (b_one (s_ret (e_bool))) (b_nil))
    (b_cons (s_asg 6 (by decide) sc__law_are_words_right.nd rfl (by first | exact Or.inl rfl | exact Or.inr rfl) (e_callI 0 (ok__law_draw T) (room.mono (by decide)) gd T.g__law_draw T.F__law_draw.kp T.b__law_draw (a_cons (e_nm 1) (a_nil))))
    (b_cons (s_asg 7 (by decide) sc__law_are_words_right.nd rfl (by first | exact Or.inl rfl | exact Or.inr rfl) (e_add (e_sl (e_nm 4) (o_some (e_nm 6)) (o_none)) (e_sl (e_nm 4) (o_none) (o_some (e_nm 6)))))
    (b_cons (s_if (t_not (t_val (e_call (ok__law_is T) (room.mono (by decide)) gd T.g__law_is T.F__law_is.kp T.b__law_is (a_cons (e_of_n (n_lst (a_cons (e_call (ok_is_even T) (room.mono (by decide)) gd T.g_is_even T.F_is_even.kp T.b_is_even (a_cons (e_nm 7) (a_nil))) (a_cons (e_call (ok_is_even T) (room.mono (by decide)) gd T.g_is_even T.F_is_even.kp T.b_is_even (a_cons (e_nm 5) (a_nil))) (a_cons (e_call (ok_is_even T) (room.mono (by decide)) gd T.g_is_even T.F_is_even.kp T.b_is_even (a_cons (e_rev (e_nm 4)) (a_nil))) (a_nil)))))) (a_cons (e_mul (e_of_n (n_lst (a_cons (e_bool) (a_nil)))) (e_int)) (a_nil)))))) (b_one (s_ret (e_bool))) (b_nil))
    (b_cons (s_asg 8 (by decide) sc__law_are_words_right.nd rfl (by first | exact Or.inl rfl | exact Or.inr rfl) (e_add (e_sl (e_nm 7) (o_none) (o_some (e_max2 rfl T.z_max (a_cons (e_int) (a_cons (e_sub (e_nm 1) (e_int)) (a_nil)))))) (e_callI 0 (ok__law_any T) (room.mono (by decide)) gd T.g__law_any T.F__law_any.kp T.b__law_any (a_cons (e_of_n (n_lst (a_cons (e_str) (a_cons (e_str) (a_cons (e_str) (a_nil)))))) (a_nil)))))
    (b_one (s_ret (e_call (ok__law_is T) (room.mono (by decide)) gd T.g__law_is T.F__law_is.kp T.b__law_is (a_cons (e_of_n (n_lst (a_cons (e_call (ok_is_even T) (room.mono (by decide)) gd T.g_is_even T.F_is_even.kp T.b_is_even (a_cons (e_sl (e_nm 8) (o_some (e_neg (e_int))) (o_none)) (a_nil))) (a_cons (e_call (ok_is_even T) (room.mono (by decide)) gd T.g_is_even T.F_is_even.kp T.b_is_even (a_cons (e_str) (a_nil))) (a_cons (e_call (ok_is_even T) (room.mono (by decide)) gd T.g_is_even T.F_is_even.kp T.b_is_even (a_cons (e_add (e_nm 4) (e_str)) (a_nil))) (a_cons (e_call (ok_is_even T) (room.mono (by decide)) gd T.g_is_even T.F_is_even.kp T.b_is_even (a_cons (e_none) (a_nil))) (a_nil))))))) (a_cons (e_mul (e_of_n (n_lst (a_cons (e_bool) (a_nil)))) (e_int)) (a_nil))))))))))))))))))
theorem ok_law (T : Env K mg) (holds : ∀ ns : List Int, ns.length ≤ 63 → ∃ e', m_law (.s ns :: List.replicate 2 .u) = some (.rt (.bool true), e')) : FnG P w K mg base 7 T.a_law T.fd_law ["script"] (spL K) :=
  fn_l T.F_law sc_law m_law (by decide) (fun cdv A outer s H E room gd =>
    b_cons (s_asgO 1 (by decide) sc_law.nd rfl (by first | exact Or.inl rfl | exact Or.inr rfl) (n_callS 0 (ok__law_hand T) (room.mono (by decide)) gd T.g__law_hand T.F__law_hand.kp T.b__law_hand))
    (b_cons (s_if (t_not (t_val (e_call (ok__law_is T) (room.mono (by decide)) gd T.g__law_is T.F__law_is.kp T.b__law_is (a_cons (e_of_n (n_lst (a_cons (e_call (ok_floor_bill T) (room.mono (by decide)) gd T.g_floor_bill T.F_floor_bill.kp T.b_floor_bill (a_cons (e_int) (a_cons (e_int) (a_cons (e_int) (a_nil))))) (a_cons (e_call (ok_floor_bill T) (room.mono (by decide)) gd T.g_floor_bill T.F_floor_bill.kp T.b_floor_bill (a_cons (e_int) (a_cons (e_int) (a_cons (e_int) (a_nil))))) (a_cons (e_call (ok_even_word T) (room.mono (by decide)) gd T.g_even_word T.F_even_word.kp T.b_even_word (a_cons (e_int) (a_cons (e_int) (a_nil)))) (a_nil)))))) (a_cons (e_of_n (n_lst (a_cons (e_int) (a_cons (e_int) (a_cons (e_str) (a_nil)))))) (a_nil)))))) (b_one (s_ret (e_bool))) (b_nil))
    (b_cons (s_for PassesOwn.never rfl (i_rng1 T.z_range (a_cons (e_int) (a_nil))) (g_nm 2 (by decide) sc_law.nd rfl (by first | exact Or.inl rfl | exact Or.inr rfl)) (b_one (s_if (t_of_w (w_or (t_not (t_val (e_callI 1 (ok__law_are_bills_right T) (room.mono (by decide)) gd T.g__law_are_bills_right T.F__law_are_bills_right.kp T.b__law_are_bills_right (a_nil)))) (w_or (t_not (t_val (e_callI 1 (ok__law_are_floors_right T) (room.mono (by decide)) gd T.g__law_are_floors_right T.F__law_are_floors_right.kp T.b__law_are_floors_right (a_nil)))) (w_or1 (t_not (t_val (e_callI 1 (ok__law_are_words_right T) (room.mono (by decide)) gd T.g__law_are_words_right T.F__law_are_words_right.kp T.b__law_are_words_right (a_nil)))))))) (b_one (s_ret (e_bool))) (b_nil))))
    (b_one (s_ret (e_bool)))))) holds
end
end Lw

namespace Lw
open PySem PySem.Spec PyProof.Rows L2 DL
theorem v_is_integer (i : Int) : runP 1 m_is_integer [.int i] = some (.bool true) := by
  rw [runP_d]; simp [m_is_integer, envP]
theorem v_is_within (i a b : Int) : runP 3 m_is_within [.int i, .int a, .int b] = some (.bool (decide (a ≤ i) && decide (i ≤ b))) := by
  rw [runP_d]; by_cases h : a ≤ i <;> simp [m_is_within, envP, v_is_integer, h]
theorem within_ok {i a b : Int} (h : a ≤ i ∧ i ≤ b) : runP 3 m_is_within [.int i, .int a, .int b] = some (.bool true) := by
  rw [v_is_within]; simp [h]
theorem v_is_number {i : Int} (h : 0 ≤ i ∧ i ≤ 10000000000000000000000000000000000000000) : runP 1 m_is_number [.int i] = some (.bool true) := by
  rw [runP_d]; simp [m_is_number, envP, within_ok h]
theorem v_check_number {i : Int} (h : 0 ≤ i ∧ i ≤ 10000000000000000000000000000000000000000) : runP 1 m_check_number [.int i] = some .none := by
  rw [runP_d]; simp [m_check_number, envP, v_is_number h]
def bb : Int := 1073741824
theorem v_rest_of {i j : Int} (h : 0 < j ∧ j < 1073741824) : runP 2 m_rest_of [.int i, .int j] = some (.int (i % j)) := by
  have hm : (sm j || sm (i / j)) = true := by
    have : sm j = true := by unfold sm; simp; omega
    simp [this]
  rw [runP_d]; simp [m_rest_of, envP, fdiv_i h, mul_i hm, Int.emod_def]
theorem v_is_tuple_of (ds : List D) : runP 2 m_is_tuple_of [.tuple ds, .int 3] = some (.bool (((ds.length : Int) == 3))) := by
  rw [runP_d]; simp [m_is_tuple_of, envP]
def FlD (a b c : Int) : D := .tuple [.int a, .int b, .int c]
structure FlOk (a b c : Int) : Prop where
  a1 : 1 ≤ a
  a2 : a ≤ 40
  b1 : 1 ≤ b
  b2 : b ≤ a
  c1 : 0 ≤ c
  c2 : c ≤ 40
theorem v_is_floor {a b c : Int} (h : FlOk a b c) : runP 1 m_is_floor [FlD a b c] = some (.bool true) := by
  rw [runP_d]; simp [m_is_floor, envP, v_is_tuple_of, FlD, within_ok ⟨h.a1, h.a2⟩, within_ok ⟨h.b1, h.b2⟩, within_ok ⟨h.c1, h.c2⟩]
theorem v_check_floor {a b c : Int} (h : FlOk a b c) : runP 1 m_check_floor [FlD a b c] = some .none := by
  rw [runP_d]; simp [m_check_floor, envP, v_is_floor h]
theorem sm_of {j : Int} (h1 : -1000000000000000000 < j) (h2 : j < 1000000000000000000) : sm j = true := by unfold sm; simp; omega
theorem v_raw_at {a b c n : Int} (h : FlOk a b c) : runP 2 m_raw_at [FlD a b c, .int n] = some (.int ((n * a + c) / b)) := by
  have := h.a1; have := h.a2; have := h.b1; have := h.b2
  have hm : (sm n || sm a) = true := by simp [sm_of (j := a) (by omega) (by omega)]
  rw [runP_d]; simp [m_raw_at, envP, FlD, mul_i hm, fdiv_i (show 0 < b ∧ b < 1073741824 by omega)]
theorem v_floor_at {a b c n : Int} (h : FlOk a b c) (hn : 0 ≤ n ∧ n ≤ 10000000000000000000000000000000000000000) : runP 2 m_floor_at [FlD a b c, .int n] = some (.int ((n * a + c) / b)) := by
  rw [runP_d]; simp [m_floor_at, envP, v_check_floor h, v_check_number hn, v_raw_at h]
def hasB (a b c n : Int) : Bool := decide (0 ≤ -((c - n * b) / a)) && ((-((c - n * b) / a) * a + c) / b == n)
theorem v_raw_has {a b c n : Int} (h : FlOk a b c) : runP 3 m_raw_has [FlD a b c, .int n] = some (.bool (hasB a b c n)) := by
  have := h.a1; have := h.a2; have := h.b1; have := h.b2
  have hm : (sm n || sm b) = true := by simp [sm_of (j := b) (by omega) (by omega)]
  have e : ∀ k, runP 2 m_raw_at [FlD a b c, .int k] = some (.int ((k * a + c) / b)) := fun k => v_raw_at h
  rw [runP_d]
  unfold FlD at *
  simp [m_raw_has, envP, mul_i hm, fdiv_i (show 0 < a ∧ a < 1073741824 by omega)]
  by_cases h : (c - n * b) / a ≤ 0
  · simp [h, e, hasB]
  · simp [h, hasB]
theorem v_floor_has {a b c n : Int} (h : FlOk a b c) (hn : 0 ≤ n ∧ n ≤ 10000000000000000000000000000000000000000) : runP 2 m_floor_has [FlD a b c, .int n] = some (.bool (hasB a b c n)) := by
  rw [runP_d]; simp [m_floor_has, envP, v_check_floor h, v_check_number hn, v_raw_has h]
theorem v_law_is {d : D} (h : okShow d = true) : runP 2 m__law_is [d, d] = some (.bool true) := by
  rw [runP_d]; simp [m__law_is, envP, reprD, h]
end Lw

namespace Lw
open PySem PySem.Spec PyProof.Rows L2 DL
/-! common parts -/
def lcC : ME Bool := tv (b2 gtD (nm 1) (rt (.int 0)))
def lcB : ME Fl := parS [0, 1] (mV (nm 1) (mV (b2 modD (cb intD (aCons (nm 0) (aNil))) (nm 1)) (mNil)))
theorem lc_loop : ∀ (N a b : Nat), b < N → whF lcC lcB N [.v (.int a), .v (.int b)] = some (.nx, [.v (.int (Nat.gcd a b : Nat)), .v (.int 0)])
  | 0, _, _, h => absurd h (by omega)
  | N + 1, a, b, h => by
    by_cases hb : b = 0
    · subst hb
      rw [wh_no (e1 := [.v (.int a), .v (.int (0 : Nat))]) (by simp [lcC])]
      simp
    · have h1 : lcC [.v (.int a), .v (.int b)] = some (true, [.v (.int a), .v (.int b)]) := by simp [lcC]; omega
      have h2 : lcB [.v (.int a), .v (.int b)] = some (.nx, [.v (.int b), .v (.int (a % b : Nat))]) := by
        simp [lcB, mod_i (show (0 : Int) < b by omega)]
      have hm : a % b < b := Nat.mod_lt _ (by omega)
      rw [wh_go h1 h2, lc_loop N b (a % b) (by omega)]
      rw [Nat.gcd_comm a b, Nat.gcd_rec b a, Nat.gcd_comm (a % b) b]
theorem v_law_common (a b : Nat) (h : b < fuel) : runP 2 m__law_common [.int a, .int b] = some (.int (Nat.gcd a b : Nat)) := by
  rw [runP_d]
  show outP (seqS (whF lcC lcB fuel) (retS (nm 0)) [.v (.int a), .v (.int b)]) = _
  rw [ap_seqS, lc_loop fuel a b h]
  simp
def cpC : ME Bool := tv (b2 neD (nm 1) (rt (.int 0)))
def cpB : ME Fl := parS [0, 1] (mV (nm 1) (mV (b2 subD (nm 0) (b2 mulA (nm 1) (b2 fdivD (nm 0) (nm 1)))) (mNil)))
theorem cp_cond (a b : Int) (hb : b ≠ 0) : cpC [.v (.int a), .v (.int b)] = some (true, [.v (.int a), .v (.int b)]) := by simp [cpC, hb]
theorem cp_body (a b : Int) (h : 0 < b ∧ b < 1073741824) : cpB [.v (.int a), .v (.int b)] = some (.nx, [.v (.int b), .v (.int (a % b))]) := by
  have hm : (sm b || sm (a / b)) = true := by simp [sm_of (j := b) (by omega) (by omega)]
  simp [cpB, fdiv_i h, mul_i hm, Int.emod_def]
theorem cp_loop (N : Nat) : ∀ (a b : Nat), b < N → (b : Int) < 1073741824 → whF cpC cpB N [.v (.int a), .v (.int b)] = some (.nx, [.v (.int (Nat.gcd a b : Nat)), .v (.int 0)]) := by
  induction N with
  | zero => intro a b h _; exact absurd h (by omega)
  | succ N ih =>
    intro a b h hk
    by_cases hb : b = 0
    · subst hb
      rw [wh_no (e1 := [.v (.int a), .v (.int (0 : Nat))]) (by simp [cpC])]
      simp
    · have hm : a % b < b := Nat.mod_lt _ (by omega)
      have e : (a : Int) % (b : Int) = ((a % b : Nat) : Int) := rfl
      rw [wh_go (cp_cond a b (by omega)) (cp_body a b (by omega)), e, ih b (a % b) (by omega) (by omega)]
      rw [Nat.gcd_comm a b, Nat.gcd_rec b a, Nat.gcd_comm (a % b) b]
theorem fuel_big : (1000000000000 : Int) < (fuel : Nat) := by unfold fuel; decide
theorem v_common_part (a b : Nat) (h : b < 1073741824) : runP 2 m_common_part [.int a, .int b] = some (.int (Nat.gcd a b : Nat)) := by
  have hf := fuel_big
  rw [runP_d]
  have e : m_common_part = seqS (parS [0, 1] (mV (cb absD (aCons (nm 0) (aNil))) (mV (cb absD (aCons (nm 1) (aNil))) (mNil)))) (seqS (whF cpC cpB fuel) (retS (nm 0))) := rfl
  have e1 : (if (a : Int) < 0 then -(a : Int) else a) = a := if_neg (by omega)
  have e2 : (if (b : Int) < 0 then -(b : Int) else b) = b := if_neg (by omega)
  rw [e]
  simp [envP, e1, e2, cp_loop fuel a b (by omega) (by omega)]
/-! bills -/
theorem tri_i (l : Nat) : (l : Int) * ((l : Int) - 1) / 2 = ((l * (l - 1) / 2 : Nat) : Int) := by
  cases l with
  | zero => rfl
  | succ k =>
    have : ((k + 1 : Nat) : Int) - 1 = (k : Int) := by omega
    rw [this, Nat.add_sub_cancel]
    norm_cast
theorem tri_j (l : Nat) : ((l : Int) - 1) * (l : Int) / 2 = ((l * (l - 1) / 2 : Nat) : Int) := by rw [Int.mul_comm]; exact tri_i l
def fbC : ME Bool := tv (b2 gtD (nm 4) (rt (.int 0)))
def fbB : ME Fl := (seqS (asgS 3 (b2 addA (b2 addA (nm 3) (b2 mulA (b2 fdivD (nm 5) (nm 6)) (b2 fdivD (b2 mulA (nm 4) (b2 subD (nm 4) (rt (.int 1)))) (rt (.int 2))))) (b2 mulA (b2 fdivD (nm 7) (nm 6)) (nm 4))))
    (seqS (parS [5, 7] (mV (b2 subD (nm 5) (b2 mulA (nm 6) (b2 fdivD (nm 5) (nm 6)))) (mV (b2 subD (nm 7) (b2 mulA (nm 6) (b2 fdivD (nm 7) (nm 6)))) (mNil))))
    (seqS (asgS 8 (b2 addA (b2 mulA (nm 5) (nm 4)) (nm 7)))
    (seqS (ifS (tv (b2 ltD (nm 8) (nm 6))) (retS (nm 3)) (nxS))
    (seqS (parS [4, 7] (mV (b2 fdivD (nm 8) (nm 6)) (mV (b2 subD (nm 8) (b2 mulA (nm 6) (b2 fdivD (nm 8) (nm 6)))) (mNil))))
    (parS [5, 6] (mV (nm 6) (mV (nm 5) (mNil)))))))))
theorem emod_e (a b : Int) : a - b * (a / b) = a % b := by rw [Int.emod_def]
theorem fb_cond (p0 p1 p2 s3 s5 s6 s7 s8 : Sl) (l : Int) (h : 0 < l) : fbC [p0, p1, p2, s3, .v (.int l), s5, s6, s7, s8] = some (true, [p0, p1, p2, s3, .v (.int l), s5, s6, s7, s8]) := by simp [fbC, h]
theorem fb_body {f l u d m : Int} (hl0 : 0 ≤ l) (hl : l ≤ 1000000000) (hu0 : 0 ≤ u) (hu : u ≤ 1000000000) (hd0 : 0 < d) (hd : d ≤ 1000000000) (p0 p1 p2 s8 : Sl) :
    fbB [p0, p1, p2, .v (.int f), .v (.int l), .v (.int u), .v (.int d), .v (.int m), s8] =
      if u % d * l + m % d < d then some (.rt (.int (f + u / d * (l * (l - 1) / 2) + m / d * l)), [p0, p1, p2, .v (.int (f + u / d * (l * (l - 1) / 2) + m / d * l)), .v (.int l), .v (.int (u % d)), .v (.int d), .v (.int (m % d)), .v (.int (u % d * l + m % d))])
      else some (.nx, [p0, p1, p2, .v (.int (f + u / d * (l * (l - 1) / 2) + m / d * l)), .v (.int ((u % d * l + m % d) / d)), .v (.int d), .v (.int (u % d)), .v (.int ((u % d * l + m % d) % d)), .v (.int (u % d * l + m % d))]) := by
  have q1 : ∀ x : Int, fdivD (.int x) (.int d) = some (.int (x / d)) := fun x => fdiv_i (by omega)
  have q2 : ∀ x : Int, mulA (.int d) (.int x) = some (.int (d * x)) := fun x => mul_i (by simp [sm_of (j := d) (by omega) (by omega)])
  have q3 : ∀ x : Int, mulA (.int x) (.int l) = some (.int (x * l)) := fun x => mul_i (by simp [sm_of (j := l) (by omega) (by omega)])
  have q4 : ∀ x : Int, mulA (.int l) (.int x) = some (.int (l * x)) := fun x => mul_i (by simp [sm_of (j := l) (by omega) (by omega)])
  have q5 : ∀ x : Int, mulA (.int (u / d)) (.int x) = some (.int (u / d * x)) := fun x => mul_i (by
    have h1 : u / d ≤ u := Int.ediv_le_self _ hu0
    have h2 : 0 ≤ u / d := Int.ediv_nonneg hu0 (by omega)
    simp [sm_of (j := u / d) (by omega) (by omega)])
  have q6 : ∀ x : Int, fdivD (.int x) (.int 2) = some (.int (x / 2)) := fun x => fdiv_i (by omega)
  unfold fbB
  simp only [ap_seqS, ap_asgS, ap_b2, ap_nm, gv_s, gv_0, Option.map_some, Option.bind_some, ap_rt, sub_i, add_i, q1, q2, q3, q4, q5, q6, oc_nx, List.set_cons_succ, List.set_cons_zero, ap_parS, ap_mV, ap_mNil, emod_e, List.length_cons, List.length_nil, if_true, setAll_cons, setAll_nil, ap_ifS, ap_tv, lt_i, ap_asB, ap_retS]
  by_cases h : u % d * l + m % d < d
  · simp only [h, decide_true, if_true, oc_rt]
  · simp only [h, decide_false, Bool.false_eq_true, if_false, ap_nxS, oc_nx, ap_seqS, ap_parS, ap_mV, ap_mNil, ap_asgS, ap_b2, ap_nm, gv_s, gv_0, Option.map_some, Option.bind_some, ap_rt, sub_i, add_i, q1, q2, q3, q4, q5, q6, emod_e, oc_nx, List.set_cons_succ, List.set_cons_zero, List.length_cons, List.length_nil, if_true, setAll_cons, setAll_nil]
theorem fb_loop (N : Nat) : ∀ (f l u d m : Nat) (p0 p1 p2 s8 : Sl), d < N → (l : Int) ≤ 1000000000 → (u : Int) ≤ 1000000000 → 0 < d → (d : Int) ≤ 1000000000 →
    ∃ e', oc (whF fbC fbB N [p0, p1, p2, .v (.int f), .v (.int l), .v (.int u), .v (.int d), .v (.int m), s8]) (retS (nm 3)) = some (.rt (.int (f + M8.bs l u d m : Nat)), e') := by
  induction N with
  | zero => intro f l u d m p0 p1 p2 s8 h; exact absurd h (by omega)
  | succ N ih =>
    intro f l u d m p0 p1 p2 s8 h hl hu hd0 hd
    by_cases h0 : l = 0
    · subst h0
      rw [wh_no (e1 := [p0, p1, p2, .v (.int f), .v (.int (0 : Nat)), .v (.int u), .v (.int d), .v (.int m), s8]) (by simp [fbC])]
      refine ⟨[p0, p1, p2, .v (.int f), .v (.int (0 : Nat)), .v (.int u), .v (.int d), .v (.int m), s8], ?_⟩
      rw [oc_nx]
      simp [M8.bs, M8.S]
    · have h1 := fb_cond p0 p1 p2 (.v (.int f)) (.v (.int u)) (.v (.int d)) (.v (.int m)) s8 l (by omega)
      have h2 := fb_body (f := f) (l := l) (u := u) (d := d) (m := m) (by omega) hl (by omega) hu (by omega) hd p0 p1 p2 s8
      have e1 : (f : Int) + (u : Int) / d * ((l : Int) * (l - 1) / 2) + (m : Int) / d * l = ((f + u / d * (l * (l - 1) / 2) + m / d * l : Nat) : Int) := by rw [tri_i]; push_cast; rfl
      have e2 : (u : Int) % d * l + (m : Int) % d = ((u % d * l + m % d : Nat) : Int) := by push_cast; rfl
      have e3 : (u : Int) % d = ((u % d : Nat) : Int) := rfl
      have e4 : ((u % d * l + m % d : Nat) : Int) / d = (((u % d * l + m % d) / d : Nat) : Int) := rfl
      have e5 : ((u % d * l + m % d : Nat) : Int) % d = (((u % d * l + m % d) % d : Nat) : Int) := rfl
      rw [e1, e2, e4, e5, e3] at h2
      have lo := M8.bs_low l u d m hd0
      have l1 : u % d < d := Nat.mod_lt _ hd0
      have l2 : m % d < d := Nat.mod_lt _ hd0
      by_cases hs : u % d * l + m % d < d
      · have hs' : ((u % d * l + m % d : Nat) : Int) < d := by omega
        rw [if_pos hs'] at h2
        rw [wh_rt h1 h2, oc_rt]
        have := M8.bs_small l (u % d) d (m % d) hs
        exact ⟨_, by rw [lo, this]; congr 4; omega⟩
      · have hs' : ¬ ((u % d * l + m % d : Nat) : Int) < d := by omega
        rw [if_neg hs'] at h2
        have hup : 0 < u % d := by
          rcases Nat.eq_zero_or_pos (u % d) with z | z
          · rw [z, Nat.zero_mul] at hs; omega
          · exact z
        have hle : (u % d * l + m % d) / d ≤ l := by
          have : (u % d * l + m % d) / d < l + 1 := by
            rw [Nat.div_lt_iff_lt_mul hd0]
            have a1 : u % d * l ≤ d * l := Nat.mul_le_mul_right l (by omega)
            have a2 : (l + 1) * d = d * l + d := by rw [Nat.add_mul, Nat.one_mul, Nat.mul_comm]
            omega
          omega
        rw [wh_go h1 h2]
        obtain ⟨e', q⟩ := ih (f + u / d * (l * (l - 1) / 2) + m / d * l) ((u % d * l + m % d) / d) d (u % d) ((u % d * l + m % d) % d) p0 p1 p2 (.v (.int (u % d * l + m % d : Nat))) (by omega) (by omega) hd hup (by omega)
        refine ⟨e', q.trans ?_⟩
        have sw := M8.bs_swap l (u % d) d (m % d) hup hd0 l2
        rw [lo, sw]
        congr 4
        omega
theorem v_floor_bill0 {l u d r : Int} {e' : En} (i1 : 0 ≤ l ∧ l ≤ 1000000000) (i2 : 0 ≤ u ∧ u ≤ 1000000000) (i3 : 1 ≤ d ∧ d ≤ 1000000000)
    (q : oc (whF fbC fbB fuel [.v (.int l), .v (.int u), .v (.int d), .v (.int 0), .v (.int l), .v (.int u), .v (.int d), .v (.int 0), .u]) (retS (nm 3)) = some (.rt (.int r), e')) : runP 9 m_floor_bill [.int l, .int u, .int d] = some (.int r) := by
  rw [runP_d]
  have e : m_floor_bill = seqS (ifS (tNo (tv (cl 3 (runP 3 m_is_within) (aCons (nm 0) (aCons (rt (.int 0)) (aCons (rt (.int 1000000000)) (aNil))))))) (nevS) (nxS))
    (seqS (ifS (tNo (tv (cl 3 (runP 3 m_is_within) (aCons (nm 1) (aCons (rt (.int 0)) (aCons (rt (.int 1000000000)) (aNil))))))) (nevS) (nxS))
    (seqS (ifS (tNo (tv (cl 3 (runP 3 m_is_within) (aCons (nm 2) (aCons (rt (.int 1)) (aCons (rt (.int 1000000000)) (aNil))))))) (nevS) (nxS))
    (seqS (parS [3, 4, 5, 6, 7] (mV (rt (.int 0)) (mV (nm 0) (mV (nm 1) (mV (nm 2) (mV (rt (.int 0)) (mNil)))))))
    (seqS (whF fbC fbB fuel) (retS (nm 3)))))) := rfl
  rw [e]
  simp only [ap_seqS, ap_ifS, ap_tNo, ap_tv, ap_cl, ap_aCons, ap_aNil, ap_nm, envP, List.map_cons, List.map_nil, List.cons_append, List.nil_append, gv_s, gv_0, Option.map_some, Option.bind_some, ap_rt, List.length_cons, List.length_nil, if_true, within_ok i1, within_ok i2, within_ok i3, ap_asB, Bool.not_true, Bool.false_eq_true, if_false, ap_nxS, oc_nx]
  simp only [ap_parS, ap_mV, ap_mNil, List.replicate, ap_nm, gv_s, gv_0, Option.map_some, Option.bind_some, ap_rt, List.length_cons, List.length_nil, if_true, setAll_cons, setAll_nil, List.set_cons_succ, List.set_cons_zero, oc_nx]
  rw [ap_seqS, q, outP_rt]
theorem v_floor_bill {l u d : Nat} (hl : (l : Int) ≤ 1000000000) (hu : (u : Int) ≤ 1000000000) (hd0 : 0 < d) (hd : (d : Int) ≤ 1000000000) : runP 9 m_floor_bill [.int l, .int u, .int d] = some (.int (M8.bs l u d 0 : Nat)) := by
  have hf := fuel_big
  obtain ⟨e', q⟩ := fb_loop fuel 0 l u d 0 (.v (.int l)) (.v (.int u)) (.v (.int d)) .u (by omega) hl hu hd0 hd
  rw [Nat.zero_add] at q
  exact v_floor_bill0 (by omega) (by omega) (by omega) q
end Lw

namespace Lw
open PySem PySem.Spec PyProof.Rows L2 DL
/-! floor_sum -/
def fsC : ME Bool := tv (b2 gtD (nm 6) (rt (.int 0)))
def fsB : ME Fl := (seqS (augS addI 5 (b2 addA (b2 mulA (b2 fdivD (b2 mulA (b2 subD (nm 6) (rt (.int 1))) (nm 6)) (rt (.int 2))) (b2 fdivD (nm 2) (nm 3))) (b2 mulA (nm 6) (b2 fdivD (nm 4) (nm 3)))))
    (seqS (parS [2, 4] (mV (cl 2 (runP 2 m_rest_of) (aCons (nm 2) (aCons (nm 3) (aNil)))) (mV (cl 2 (runP 2 m_rest_of) (aCons (nm 4) (aCons (nm 3) (aNil)))) (mNil))))
    (seqS (asgS 7 (b2 addA (b2 mulA (nm 2) (nm 6)) (nm 4)))
    (seqS (parS [6, 4] (mV (b2 fdivD (nm 7) (nm 3)) (mV (cl 2 (runP 2 m_rest_of) (aCons (nm 7) (aCons (nm 3) (aNil)))) (mNil))))
    (seqS (parS [2, 3] (mV (nm 3) (mV (nm 2) (mNil))))
    (ifS (tv (b2 eqD (nm 3) (rt (.int 0)))) (asgS 6 (rt (.int 0))) (nxS)))))))
theorem fs_cond (p0 p1 s2 s3 s4 s5 s7 : Sl) (l : Int) (h : 0 < l) : fsC [p0, p1, s2, s3, s4, s5, .v (.int l), s7] = some (true, [p0, p1, s2, s3, s4, s5, .v (.int l), s7]) := by simp [fsC, h]
theorem fs_body {f l u d m : Int} (hl0 : 0 ≤ l) (hl : l ≤ 1000000000) (hu0 : 0 ≤ u) (hu : u ≤ 1000000000) (hd0 : 0 < d) (hd : d ≤ 1000000000) (p0 p1 s7 : Sl) :
    fsB [p0, p1, .v (.int u), .v (.int d), .v (.int m), .v (.int f), .v (.int l), s7] =
      some (.nx, [p0, p1, .v (.int d), .v (.int (u % d)), .v (.int ((u % d * l + m % d) % d)), .v (.int (f + ((l - 1) * l / 2 * (u / d) + l * (m / d)))), .v (.int (if u % d = 0 then 0 else (u % d * l + m % d) / d)), .v (.int (u % d * l + m % d))]) := by
  have q1 : ∀ x : Int, fdivD (.int x) (.int d) = some (.int (x / d)) := fun x => fdiv_i (by omega)
  have q3 : ∀ x : Int, mulA (.int x) (.int l) = some (.int (x * l)) := fun x => mul_i (by simp [sm_of (j := l) (by omega) (by omega)])
  have q4 : ∀ x : Int, mulA (.int l) (.int x) = some (.int (l * x)) := fun x => mul_i (by simp [sm_of (j := l) (by omega) (by omega)])
  have q5 : ∀ x : Int, mulA (.int x) (.int (u / d)) = some (.int (x * (u / d))) := fun x => mul_i (by
    have h1 : u / d ≤ u := Int.ediv_le_self _ hu0
    have h2 : 0 ≤ u / d := Int.ediv_nonneg hu0 (by omega)
    simp [sm_of (j := u / d) (by omega) (by omega)])
  have q6 : ∀ x : Int, fdivD (.int x) (.int 2) = some (.int (x / 2)) := fun x => fdiv_i (by omega)
  have q7 : ∀ x : Int, runP 2 m_rest_of [.int x, .int d] = some (.int (x % d)) := fun x => v_rest_of (by omega)
  unfold fsB
  simp only [ap_seqS, ap_augS, ap_asgS, ap_b2, ap_nm, gv_s, gv_0, Option.map_some, Option.bind_some, ap_rt, sub_i, add_i, addI_i, q1, q3, q4, q5, q6, q7, oc_nx, List.set_cons_succ, List.set_cons_zero, ap_parS, ap_mV, ap_mNil, ap_cl, ap_aCons, ap_aNil, List.length_cons, List.length_nil, if_true, setAll_cons, setAll_nil, ap_ifS, ap_tv, eq_i, ap_asB]
  by_cases h : u % d = 0
  · have : (u % d == 0) = true := by simp [h]
    simp only [this, if_true]
    rw [if_pos h]
  · have : (u % d == 0) = false := by simp [h]
    simp only [this, Bool.false_eq_true, if_false, ap_nxS]
    rw [if_neg h]
theorem fs_loop (N : Nat) : ∀ (f l u d m : Nat) (p0 p1 s7 : Sl), d < N → (l : Int) ≤ 1000000000 → (u : Int) ≤ 1000000000 → 0 < d ∨ l = 0 → (d : Int) ≤ 1000000000 →
    ∃ e', oc (whF fsC fsB N [p0, p1, .v (.int u), .v (.int d), .v (.int m), .v (.int f), .v (.int l), s7]) (retS (nm 5)) = some (.rt (.int (f + M8.bs l u d m : Nat)), e') := by
  induction N with
  | zero => intro f l u d m p0 p1 s7 h; exact absurd h (by omega)
  | succ N ih =>
    intro f l u d m p0 p1 s7 h hl hu hd0 hd
    by_cases h0 : l = 0
    · subst h0
      rw [wh_no (e1 := [p0, p1, .v (.int u), .v (.int d), .v (.int m), .v (.int f), .v (.int (0 : Nat)), s7]) (by simp [fsC])]
      refine ⟨[p0, p1, .v (.int u), .v (.int d), .v (.int m), .v (.int f), .v (.int (0 : Nat)), s7], ?_⟩
      rw [oc_nx]
      simp [M8.bs, M8.S]
    · have hd0 : 0 < d := by omega
      have h1 := fs_cond p0 p1 (.v (.int u)) (.v (.int d)) (.v (.int m)) (.v (.int f)) s7 l (by omega)
      have h2 := fs_body (f := f) (l := l) (u := u) (d := d) (m := m) (by omega) hl (by omega) hu (by omega) hd p0 p1 s7
      have e1 : (f : Int) + (((l : Int) - 1) * l / 2 * ((u : Int) / d) + (l : Int) * ((m : Int) / d)) = ((f + (l * (l - 1) / 2 * (u / d) + l * (m / d)) : Nat) : Int) := by rw [tri_j]; push_cast; rfl
      have e2 : (u : Int) % d * l + (m : Int) % d = ((u % d * l + m % d : Nat) : Int) := by push_cast; rfl
      have e3 : (u : Int) % d = ((u % d : Nat) : Int) := rfl
      have e4 : ((u % d * l + m % d : Nat) : Int) / d = (((u % d * l + m % d) / d : Nat) : Int) := rfl
      have e5 : ((u % d * l + m % d : Nat) : Int) % d = (((u % d * l + m % d) % d : Nat) : Int) := rfl
      rw [e1, e2, e4, e5, e3] at h2
      have lo := M8.bs_low l u d m hd0
      have l1 : u % d < d := Nat.mod_lt _ hd0
      have l2 : m % d < d := Nat.mod_lt _ hd0
      rw [wh_go h1 h2]
      by_cases hup : u % d = 0
      · have : ((u % d : Nat) : Int) = 0 := by omega
        rw [if_pos this]
        obtain ⟨e', q⟩ := ih (f + (l * (l - 1) / 2 * (u / d) + l * (m / d))) 0 d (u % d) ((u % d * l + m % d) % d) p0 p1 (.v (.int (u % d * l + m % d : Nat))) (by omega) (by omega) hd (.inr rfl) (by omega)
        refine ⟨e', q.trans ?_⟩
        have z1 : M8.bs 0 d (u % d) ((u % d * l + m % d) % d) = 0 := rfl
        have z2 : M8.bs l (u % d) d (m % d) = 0 := M8.bs_small _ _ _ _ (by rw [hup, Nat.zero_mul]; omega)
        rw [lo, z1, z2, Nat.mul_comm (u / d), Nat.mul_comm (m / d)]
        congr 4
      · have : ¬ ((u % d : Nat) : Int) = 0 := by omega
        rw [if_neg this]
        have hle : (u % d * l + m % d) / d ≤ l := by
          have : (u % d * l + m % d) / d < l + 1 := by
            rw [Nat.div_lt_iff_lt_mul hd0]
            have a1 : u % d * l ≤ d * l := Nat.mul_le_mul_right l (by omega)
            have a2 : (l + 1) * d = d * l + d := by rw [Nat.add_mul, Nat.one_mul, Nat.mul_comm]
            omega
          omega
        obtain ⟨e', q⟩ := ih (f + (l * (l - 1) / 2 * (u / d) + l * (m / d))) ((u % d * l + m % d) / d) d (u % d) ((u % d * l + m % d) % d) p0 p1 (.v (.int (u % d * l + m % d : Nat))) (by omega) (by omega) hd (by omega) (by omega)
        refine ⟨e', q.trans ?_⟩
        have sw := M8.bs_swap l (u % d) d (m % d) (by omega) hd0 l2
        rw [lo, sw, Nat.mul_comm (u / d), Nat.mul_comm (m / d)]
        congr 4
        omega
theorem v_floor_sum0 {l u d m r : Int} {e' : En} (i1 : 0 ≤ l ∧ l ≤ 1000000000) (hf : FlOk u d m)
    (q : oc (whF fsC fsB fuel [.v (.int l), .v (FlD u d m), .v (.int u), .v (.int d), .v (.int m), .v (.int 0), .v (.int l), .u]) (retS (nm 5)) = some (.rt (.int r), e')) : runP 8 m_floor_sum [.int l, FlD u d m] = some (.int r) := by
  rw [runP_d]
  have e : m_floor_sum = seqS (ifS (tNo (tv (cl 3 (runP 3 m_is_within) (aCons (nm 0) (aCons (rt (.int 0)) (aCons (rt (.int 1000000000)) (aNil))))))) (nevS) (nxS))
    (seqS (drp (cl 1 (runP 1 m_check_floor) (aCons (nm 1) (aNil))))
    (seqS (unS (gTupS 3 (gConsS (gNm 2) (gConsS (gNm 3) (gConsS (gNm 4) (gNilS))))) (nm 1))
    (seqS (parS [5, 6] (mV (rt (.int 0)) (mV (nm 0) (mNil))))
    (seqS (whF fsC fsB fuel) (retS (nm 5)))))) := rfl
  have hc := v_check_floor hf
  unfold FlD at *
  rw [e]
  simp only [ap_seqS, ap_ifS, ap_tNo, ap_tv, ap_cl, ap_aCons, ap_aNil, ap_nm, envP, List.map_cons, List.map_nil, List.cons_append, List.nil_append, gv_s, gv_0, Option.map_some, Option.bind_some, ap_rt, List.length_cons, List.length_nil, if_true, within_ok i1, hc, ap_asB, Bool.not_true, Bool.false_eq_true, if_false, ap_nxS, oc_nx, ap_drp, ap_unS, ap_gTup, ap_gCons, ap_gNm, ap_gNil, List.replicate, List.set_cons_succ, List.set_cons_zero, ap_parS, ap_mV, ap_mNil, setAll_cons, setAll_nil]
  rw [q, outP_rt]
theorem v_floor_sum {l u d m : Nat} (hl : (l : Int) ≤ 1000000000) (h : FlOk u d m) : runP 8 m_floor_sum [.int l, FlD u d m] = some (.int (M8.bs l u d m : Nat)) := by
  have hf := fuel_big
  have h1 := h.a1; have h2 := h.a2; have h3 := h.b1; have h4 := h.b2
  obtain ⟨e', q⟩ := fs_loop fuel 0 l u d m (.v (.int l)) (.v (FlD u d m)) .u (by omega) hl (by omega) (by omega) (by omega)
  rw [Nat.zero_add] at q
  exact v_floor_sum0 (by omega) h q
/-! steps -/
def stepD (a b c : Int) : D → D
  | .int p => .int (((p + 1) * a + c) / b - (p * a + c) / b)
  | d => d
theorem step_i (a b c p : Int) : stepD a b c (.int p) = .int (((p + 1) * a + c) / b - (p * a + c) / b) := rfl
def stF : ME D := b2 subD (cl 2 (runP 2 m_raw_at) (aCons (nm 0) (aCons (b2 addA (nm 2) (rt (.int 1))) (aNil)))) (cl 2 (runP 2 m_raw_at) (aCons (nm 0) (aCons (nm 2) (aNil))))
def stL : ME (List D) := lcS (rngI rng1D (aCons (nm 1) (aNil))) (gNm 2) (rt true) stF [2]
theorem st_eq : m_steps_of = seqS (drp (cl 1 (runP 1 m_check_floor) (aCons (nm 0) (aNil))))
    (seqS (asgS 1 (b2 fdivD (b2 ixD (nm 0) (rt (.int 1))) (cl 2 (runP 2 m_common_part) (aCons (b2 ixD (nm 0) (rt (.int 0))) (aCons (b2 ixD (nm 0) (rt (.int 1))) (aNil))))))
    (retS (cb tupleD (aCons (fr stL) (aNil))))) := rfl
theorem st_L {a b c q : Int} (h : FlOk a b c) (q0 : 0 ≤ q) (q1 : q ≤ 1000) : stL [.v (FlD a b c), .v (.int q), .u] = some ((DL.upTo 0 q.toNat).map (stepD a b c), [.v (FlD a b c), .v (.int q), .u]) := by
  have hr := fun n => v_raw_at (n := n) h
  have hi : rngI rng1D (aCons (nm 1) aNil) [.v (FlD a b c), .v (.int q), .u] = some (DL.upTo 0 q.toNat, [.v (FlD a b c), .v (.int q), .u]) := by
    simp only [ap_rngI, ap_aCons, ap_nm, gv_s, gv_0, Option.map_some, Option.bind_some, ap_aNil]
    have : rng1D [.int q] = some (DL.upTo 0 q.toNat) := if_pos (by omega)
    rw [this]
    simp only [Option.map_some]
  have hl : (DL.upTo 0 q.toNat).length ≤ 100000 := by
    unfold DL.upTo
    rw [List.length_map, List.length_range]
    omega
  refine lc_map hi rfl hl fun d hd => ?_
  obtain ⟨p, rfl, _⟩ := mem_upTo hd
  unfold stF
  simp only [ap_b2, ap_cl, ap_aCons, ap_nm, gv_s, gv_0, Option.map_some, Option.bind_some, ap_rt, ap_aNil, List.set_cons_succ, List.set_cons_zero, add_i, List.length_cons, List.length_nil, if_true, hr, sub_i, step_i]
theorem v_steps_of {a b c g : Int} (h : FlOk a b c) (hg : runP 2 m_common_part [.int a, .int b] = some (.int g)) (g1 : 1 ≤ g) (g2 : g ≤ b) :
    runP 3 m_steps_of [FlD a b c] = some (.tuple ((DL.upTo 0 (b / g).toNat).map (stepD a b c))) := by
  have h1 := h.a1; have h2 := h.a2; have h3 := h.b1; have h4 := h.b2
  have q1 : ∀ x : Int, fdivD (.int x) (.int g) = some (.int (x / g)) := fun x => fdiv_i (by omega)
  have bg : b / g ≤ b := Int.ediv_le_self _ (by omega)
  have bg0 : 0 ≤ b / g := Int.ediv_nonneg (by omega) (by omega)
  have hc := v_check_floor h
  have hL := st_L h bg0 (by omega)
  rw [runP_d, st_eq]
  unfold FlD at *
  simp only [ap_seqS, ap_drp, ap_cl, ap_aCons, ap_aNil, ap_nm, envP, List.map_cons, List.map_nil, List.cons_append, List.nil_append, gv_s, gv_0, Option.map_some, Option.bind_some, ap_rt, List.length_cons, List.length_nil, if_true, hc, oc_nx, ap_asgS, ap_b2, ix_t, at_0, at_1, hg, q1, List.replicate, List.set_cons_succ, List.set_cons_zero, ap_retS, ap_cb, ap_fr, hL, tupleD, outP_rt]
end Lw

namespace Lw
open PySem PySem.Spec PyProof.Rows L2 DL
/-! the hand -/
def drA : ME Fl := ifS (tAn (tv (b2 eqD (ixO 0 (rt (.int 2))) (rt (.int 0)))) (tv (b2 ltD (ixO 0 (rt (.int 1))) (cb lenD (aCons (ixO 0 (rt (.int 0))) (aNil)))))) (seqS (asgS 2 (b2 ixD (ixO 0 (rt (.int 0))) (ixO 0 (rt (.int 1)))))
    (seqS (setO 0 (rt (.int 1)) (b2 addA (ixO 0 (rt (.int 1))) (rt (.int 1))))
    (seqS (setO 0 (rt (.int 3)) (b2 modD (cb intD (aCons (b2 addA (b2 addA (b2 mulA (ixO 0 (rt (.int 3))) (rt (.int 69621))) (b2 mulA (nm 2) (rt (.int 40692)))) (rt (.int 83))) (aNil))) (rt (.int 2147483629))))
    (ifS (tv (b2 geD (nm 2) (b2 powD (rt (.int 10)) (rt (.int 18))))) (setO 0 (rt (.int 2)) (nm 2)) (nxS))))) (nxS)
def drB : ME Fl := seqS (ifS (tv (b2 gtD (ixO 0 (rt (.int 2))) (rt (.int 0)))) (seqS (asgS 3 (b2 modD (cb intD (aCons (ixO 0 (rt (.int 2))) (aNil))) (nm 1)))
    (seqS (setO 0 (rt (.int 2)) (b2 fdivD (ixO 0 (rt (.int 2))) (nm 1)))
    (retS (nm 3)))) (nxS))
    (seqS (setO 0 (rt (.int 4)) (b2 addA (ixO 0 (rt (.int 4))) (rt (.int 1))))
    (seqS (asgS 4 (b2 modD (cb intD (aCons (b2 mulA (cb intD (aCons (b2 addA (ixO 0 (rt (.int 3))) (b2 mulA (rt (.int 7919)) (ixO 0 (rt (.int 4))))) (aNil))) (rt (.int 48271))) (aNil))) (rt (.int 2147483647))))
    (seqS (asgS 4 (b2 modD (cb intD (aCons (b2 mulA (nm 4) (b2 addA (b2 fdivD (nm 4) (rt (.int 1009))) (rt (.int 69621)))) (aNil))) (rt (.int 2147483647))))
    (seqS (asgS 4 (b2 modD (cb intD (aCons (b2 mulA (nm 4) (b2 addA (b2 fdivD (nm 4) (rt (.int 2003))) (rt (.int 40692)))) (aNil))) (rt (.int 2147483399))))
    (retS (b2 modD (cb intD (aCons (b2 fdivD (nm 4) (rt (.int 16))) (aNil))) (nm 1)))))))
theorem pow18 : powD (.int 10) (.int 18) = some (.int 1000000000000000000) := rfl
theorem pow9 : powD (.int 10) (.int 9) = some (.int 1000000000) := rfl
theorem pow5 : powD (.int 10) (.int 5) = some (.int 100000) := rfl
theorem pow6 : powD (.int 10) (.int 6) = some (.int 1000000) := rfl
theorem pow30 : powD (.int 10) (.int 30) = some (.int 1000000000000000000000000000000) := rfl
theorem n0 : ixN 5 0 = some 0 := rfl
theorem n1 : ixN 5 1 = some 1 := rfl
theorem n2 : ixN 5 2 = some 2 := rfl
theorem n3 : ixN 5 3 = some 3 := rfl
theorem n4 : ixN 5 4 = some 4 := rfl
theorem v_drA (cs : List Int) (i l m n k : Int) (hi : 0 ≤ i) (hl : 0 ≤ l) : ∃ i' l' m' s2, drA [.o (HandD cs i l m n), .v (.int k), .u, .u, .u] = some (.nx, [.o (HandD cs i' l' m' n), .v (.int k), s2, .u, .u]) ∧ 0 ≤ i' ∧ 0 ≤ l' := by
  have q1 : ∀ x : Int, mulA (.int x) (.int 69621) = some (.int (x * 69621)) := fun x => mul_i (by simp [sm_of (j := 69621) (by omega) (by omega)])
  have q2 : ∀ x : Int, mulA (.int x) (.int 40692) = some (.int (x * 40692)) := fun x => mul_i (by simp [sm_of (j := 40692) (by omega) (by omega)])
  have q3 : ∀ x : Int, modD (.int x) (.int 2147483629) = some (.int (x % 2147483629)) := fun x => mod_i (by omega)
  unfold drA HandD
  by_cases h : l = 0 ∧ i < cs.length
  · have h1 : (l == 0) = true := by simp [h.1]
    have h2 : decide (i < (cs.map PyData.int).length) = true := by simp [h.2]
    obtain ⟨x, hx, hat⟩ := at_in (xs := cs.map PyData.int) hi (by simpa using h.2)
    obtain ⟨c, _, rfl⟩ := List.mem_map.mp hx
    simp only [ap_ifS, ap_tAn, ap_tv, ap_b2, ap_ixO, go_0, Option.map_some, Option.bind_some, ap_rt, ap_asI, at_2, eq_i, h1, ap_asB, if_true, at_1, at_0, ap_cb, ap_aCons, ap_aNil, len_l, lt_i, h2, ap_seqS, ap_asgS, ix_l, hat, List.set_cons_succ, List.set_cons_zero, oc_nx, ap_setO, List.length_cons, List.length_nil, Nat.zero_add, Nat.reduceAdd, n1, add_i, at_3, ap_nm, gv_s, gv_0, q1, q2, int_i, q3, n3, pow18, ge_i]
    by_cases hc : (1000000000000000000 : Int) ≤ c
    · have hc' : decide ((1000000000000000000 : Int) ≤ c) = true := by simpa using hc
      simp only [hc', if_true, ap_setO, ap_nm, gv_s, gv_0, go_0, Option.map_some, Option.bind_some, ap_rt, ap_asI, List.length_cons, List.length_nil, Nat.zero_add, Nat.reduceAdd, n2, List.set_cons_succ, List.set_cons_zero]
      exact ⟨_, _, _, _, rfl, by omega, by omega⟩
    · have hc' : decide ((1000000000000000000 : Int) ≤ c) = false := by simpa using hc
      simp only [hc', Bool.false_eq_true, if_false, ap_nxS]
      exact ⟨_, _, _, _, rfl, by omega, hl⟩
  · refine ⟨i, l, m, .u, ?_, hi, hl⟩
    by_cases h0 : l = 0
    · have h1 : (l == 0) = true := by simp [h0]
      have h2 : decide (i < (cs.map PyData.int).length) = false := by simp; omega
      simp only [ap_ifS, ap_tAn, ap_tv, ap_b2, ap_ixO, go_0, Option.map_some, Option.bind_some, ap_rt, ap_asI, at_2, eq_i, h1, ap_asB, if_true, at_1, at_0, ap_cb, ap_aCons, ap_aNil, len_l, lt_i, h2, Bool.false_eq_true, if_false, ap_nxS]
    · have h1 : (l == 0) = false := by simp [h0]
      simp only [ap_ifS, ap_tAn, ap_tv, ap_b2, ap_ixO, go_0, Option.map_some, Option.bind_some, ap_rt, ap_asI, at_2, eq_i, h1, ap_asB, Bool.false_eq_true, if_false, ap_nxS]
theorem v_drB (cs : List Int) (i l m n k : Int) (s2 : Sl) (hi : 0 ≤ i) (hl : 0 ≤ l) (hk : 0 < k ∧ k < 1073741824) : ∃ l' n' r e', drB [.o (HandD cs i l m n), .v (.int k), s2, .u, .u] = some (.rt (.int r), .o (HandD cs i l' m n') :: e') ∧ 0 ≤ l' ∧ 0 ≤ r ∧ r < k := by
  have q0 : ∀ x : Int, modD (.int x) (.int k) = some (.int (x % k)) := fun x => mod_i hk.1
  have q1 : ∀ x : Int, fdivD (.int x) (.int k) = some (.int (x / k)) := fun x => fdiv_i hk
  have q2 : ∀ x : Int, mulA (.int 7919) (.int x) = some (.int (7919 * x)) := fun x => mul_i (by simp [sm_of (j := 7919) (by omega) (by omega)])
  have q3 : ∀ x : Int, mulA (.int x) (.int 48271) = some (.int (x * 48271)) := fun x => mul_i (by simp [sm_of (j := 48271) (by omega) (by omega)])
  have q4 : ∀ x : Int, modD (.int x) (.int 2147483647) = some (.int (x % 2147483647)) := fun x => mod_i (by omega)
  have q5 : ∀ x : Int, modD (.int x) (.int 2147483399) = some (.int (x % 2147483399)) := fun x => mod_i (by omega)
  have q6 : ∀ x y : Int, mulA (.int (x % 2147483647)) (.int y) = some (.int (x % 2147483647 * y)) := fun x y => mul_i (by
    have h1 : 0 ≤ x % 2147483647 := Int.emod_nonneg _ (by omega)
    have h2 : x % 2147483647 < 2147483647 := Int.emod_lt_of_pos _ (by omega)
    simp [sm_of (j := x % 2147483647) (by omega) (by omega)])
  have q7 : ∀ x : Int, fdivD (.int x) (.int 1009) = some (.int (x / 1009)) := fun x => fdiv_i (by omega)
  have q8 : ∀ x : Int, fdivD (.int x) (.int 2003) = some (.int (x / 2003)) := fun x => fdiv_i (by omega)
  have q9 : ∀ x : Int, fdivD (.int x) (.int 16) = some (.int (x / 16)) := fun x => fdiv_i (by omega)
  unfold drB HandD
  by_cases h : 0 < l
  · have h1 : decide (0 < l) = true := by simpa using h
    simp only [ap_seqS, ap_ifS, ap_tv, ap_b2, ap_ixO, go_0, Option.map_some, Option.bind_some, ap_rt, ap_asI, at_2, gt_i, h1, ap_asB, if_true, ap_asgS, ap_cb, ap_aCons, ap_aNil, int_i, ap_nm, gv_s, gv_0, q0, List.set_cons_succ, List.set_cons_zero, oc_nx, ap_setO, q1, List.length_cons, List.length_nil, Nat.zero_add, Nat.reduceAdd, n2, ap_retS, oc_rt]
    exact ⟨_, _, _, _, rfl, Int.ediv_nonneg hl (by omega), Int.emod_nonneg _ (by omega), Int.emod_lt_of_pos _ hk.1⟩
  · have h1 : decide (0 < l) = false := by simpa using h
    simp only [ap_seqS, ap_ifS, ap_tv, ap_b2, ap_ixO, go_0, Option.map_some, Option.bind_some, ap_rt, ap_asI, at_2, at_3, at_4, gt_i, h1, ap_asB, Bool.false_eq_true, if_false, ap_nxS, ap_asgS, ap_cb, ap_aCons, ap_aNil, int_i, ap_nm, gv_s, gv_0, add_i, q0, q2, q3, q4, q5, q6, q7, q8, q9, List.set_cons_succ, List.set_cons_zero, oc_nx, ap_setO, q1, List.length_cons, List.length_nil, Nat.zero_add, Nat.reduceAdd, n4, ap_retS, oc_rt]
    exact ⟨_, _, _, _, rfl, hl, Int.emod_nonneg _ (by omega), Int.emod_lt_of_pos _ hk.1⟩
theorem v_draw {h : D} {k : Int} (hh : HOK h) (hk : 0 < k ∧ k < 1073741824) : ∃ r h', runI 5 m__law_draw h [.int k] = some (.int r, h') ∧ 0 ≤ r ∧ r < k ∧ HOK h' := by
  obtain ⟨cs, i, l, m, n, rfl, hi, hl⟩ := hh
  obtain ⟨i', l', m', s2, h1, hi', hl'⟩ := v_drA cs i l m n k hi hl
  obtain ⟨l2, n2, r, e', h2, hl2, r1, r2⟩ := v_drB cs i' l' m' n k s2 hi' hl' hk
  refine ⟨r, HandD cs i' l2 m' n2, ?_, r1, r2, _, _, _, _, _, rfl, hi', hl2⟩
  rw [runI_d]
  show outI (seqS drA drB [.o (HandD cs i l m n), .v (.int k), .u, .u, .u]) = _
  rw [ap_seqS, h1, oc_nx, h2, outI_rt]
/-- one of a list -/
theorem v_any {h : D} {ds : List D} (hh : HOK h) (h1 : ds ≠ []) (h2 : ds.length < 1000000) : ∃ d h', d ∈ ds ∧ runI 2 m__law_any h [.list ds] = some (d, h') ∧ HOK h' := by
  have hp : 0 < ds.length := List.length_pos_iff.mpr h1
  obtain ⟨r, h', q, r1, r2, ok⟩ := v_draw (k := ds.length) hh (by omega)
  obtain ⟨d, hd, hat⟩ := at_in (xs := ds) r1 (by omega)
  refine ⟨d, h', hd, ?_, ok⟩
  rw [runI_d]
  unfold m__law_any
  simp only [envP, ap_retS, ap_b2, ap_nm, gv_s, gv_0, List.map_cons, List.map_nil, List.cons_append, List.nil_append, List.replicate, Option.map_some, Option.bind_some, ap_clI, go_0, ap_aCons, ap_cb, ap_aNil, len_l, List.length_cons, List.length_nil, Nat.zero_add, if_true, q, List.set_cons_zero, ix_l, hat, outI_rt]
theorem v_great {h : D} (hh : HOK h) : ∃ (r : Nat) (h' : D), runI 1 m__law_great h [] = some (.int r, h') ∧ 1 ≤ r ∧ (r : Int) ≤ 1000000000 ∧ HOK h' := by
  obtain ⟨d, h1, hd, q1, ok1⟩ := v_any (ds := [.int 5, .int 60, .int 100000, .int 1000000000]) hh (by simp) (by simp)
  have hd2 : ∃ k : Int, d = .int k ∧ 0 < k ∧ k ≤ 1000000000 := by
    simp at hd
    rcases hd with rfl | rfl | rfl | rfl <;> exact ⟨_, rfl, by omega, by omega⟩
  obtain ⟨k, rfl, k1, k2⟩ := hd2
  obtain ⟨r, h2, q2, r1, r2, ok2⟩ := v_draw (k := k) ok1 (by omega)
  obtain ⟨n, rfl⟩ : ∃ n : Nat, r = n := ⟨r.toNat, by omega⟩
  refine ⟨n + 1, h2, ?_, by omega, by omega, ok2⟩
  rw [runI_d]
  unfold m__law_great
  have e : shortL [.int 5, .int 60, .int 100000, .int 1000000000] = some [.int 5, .int 60, .int 100000, .int 1000000000] := rfl
  have e2 : ((n + 1 : Nat) : Int) = 1 + (n : Int) := by omega
  rw [e2]
  simp only [envP, ap_retS, ap_b2, ap_rt, List.map_nil, List.nil_append, List.length_nil, List.replicate, Option.map_some, Option.bind_some, ap_clI, go_0, ap_aCons, ap_aNil, ap_fr, ap_bd, ap_lf, pow5, pow9, e, List.length_cons, Nat.zero_add, if_true, q1, q2, List.set_cons_zero, add_i, outI_rt]
end Lw

namespace Lw
open PySem PySem.Spec PyProof.Rows L2 DL
theorem is_ints (ns : List Int) (h : ∀ n ∈ ns, tiny n) (hl : ns.length ≤ 70) : runP 2 m__law_is [.list (ns.map .int), .list (ns.map .int)] = some (.bool true) := v_law_is (ok_ints h hl)
theorem short2 (a b : D) : shortL [a, b] = some [a, b] := rfl
theorem short3 (a b c : D) : shortL [a, b, c] = some [a, b, c] := rfl
theorem short4 (a b c d : D) : shortL [a, b, c, d] = some [a, b, c, d] := rfl
theorem is2 {x y : Int} (hx : tiny x) (hy : tiny y) : runP 2 m__law_is [.list [.int x, .int y], .list [.int x, .int y]] = some (.bool true) :=
  is_ints [x, y] (fun n hn => by simp at hn; rcases hn with rfl | rfl <;> assumption) (by simp)
/-! the answers over whole numbers, signs forgotten -/
def BS (l u d : Int) : Int := (M8.bs l.toNat u.toNat d.toNat 0 : Nat)
def FS (l u d m : Int) : Int := (M8.bs l.toNat u.toNat d.toNat m.toNat : Nat)
def GC (t b : Int) : Int := (Nat.gcd t.toNat b.toNat : Nat)
theorem v_fb {l u d : Int} (l0 : 0 ≤ l) (l1 : l ≤ 1000000000) (u0 : 0 ≤ u) (u1 : u ≤ 1000000000) (d0 : 1 ≤ d) (d1 : d ≤ 1000000000) : runP 9 m_floor_bill [.int l, .int u, .int d] = some (.int (BS l u d)) := by
  obtain ⟨l, rfl⟩ : ∃ n : Nat, l = n := ⟨l.toNat, by omega⟩
  obtain ⟨u, rfl⟩ : ∃ n : Nat, u = n := ⟨u.toNat, by omega⟩
  obtain ⟨d, rfl⟩ : ∃ n : Nat, d = n := ⟨d.toNat, by omega⟩
  exact v_floor_bill l1 u1 (by omega) d1
theorem v_fs {l u d m : Int} (l0 : 0 ≤ l) (l1 : l ≤ 1000000000) (h : FlOk u d m) : runP 8 m_floor_sum [.int l, FlD u d m] = some (.int (FS l u d m)) := by
  have h1 := h.a1; have h2 := h.b1; have h3 := h.c1
  obtain ⟨l, rfl⟩ : ∃ n : Nat, l = n := ⟨l.toNat, by omega⟩
  obtain ⟨u, rfl⟩ : ∃ n : Nat, u = n := ⟨u.toNat, by omega⟩
  obtain ⟨d, rfl⟩ : ∃ n : Nat, d = n := ⟨d.toNat, by omega⟩
  obtain ⟨m, rfl⟩ : ∃ n : Nat, m = n := ⟨m.toNat, by omega⟩
  exact v_floor_sum l1 h
theorem v_gc {t b : Int} (t0 : 0 ≤ t) (b0 : 0 ≤ b) (h : b ≤ 1000000000) : runP 2 m__law_common [.int t, .int b] = some (.int (GC t b)) := by
  have hf := fuel_big
  obtain ⟨t, rfl⟩ : ∃ n : Nat, t = n := ⟨t.toNat, by omega⟩
  obtain ⟨b, rfl⟩ : ∃ n : Nat, b = n := ⟨b.toNat, by omega⟩
  exact v_law_common t b (by omega)
theorem v_cp {t b : Int} (t0 : 0 ≤ t) (b0 : 0 ≤ b) (h : b ≤ 1000000000) : runP 2 m_common_part [.int t, .int b] = some (.int (GC t b)) := by
  obtain ⟨t, rfl⟩ : ∃ n : Nat, t = n := ⟨t.toNat, by omega⟩
  obtain ⟨b, rfl⟩ : ∃ n : Nat, b = n := ⟨b.toNat, by omega⟩
  exact v_common_part t b (by omega)
theorem gc_pos {t b : Int} (b0 : 1 ≤ b) : 1 ≤ GC t b := by
  have := Nat.gcd_pos_of_pos_right t.toNat (show 0 < b.toNat by omega)
  unfold GC; omega
theorem gc_le {t b : Int} (b0 : 1 ≤ b) : GC t b ≤ b := by
  have := Nat.le_of_dvd (show 0 < b.toNat by omega) (Nat.gcd_dvd_right t.toNat b.toNat)
  unfold GC; omega
theorem gc_le' {t b : Int} (b0 : 1 ≤ t) : GC t b ≤ t := by
  have := Nat.le_of_dvd (show 0 < t.toNat by omega) (Nat.gcd_dvd_left t.toNat b.toNat)
  unfold GC; omega
theorem gc_comm (t b : Int) : GC t b = GC b t := by unfold GC; rw [Nat.gcd_comm]
theorem BS_closed {t b : Int} (t0 : 1 ≤ t) (b0 : 1 ≤ b) : BS b t b = ((t - 1) * (b - 1) + GC t b - 1) / 2 := by
  obtain ⟨t, rfl⟩ : ∃ n : Nat, t = n := ⟨t.toNat, by omega⟩
  obtain ⟨b, rfl⟩ : ∃ n : Nat, b = n := ⟨b.toNat, by omega⟩
  have h := M8.closed t b (by omega) (by omega)
  unfold BS GC
  simp only [Int.toNat_natCast]
  have e : ((t : Int) - 1) * (b - 1) = t * b - t - b + 1 := by
    rw [Int.sub_mul, Int.mul_sub]; omega
  have h2 : (2 : Int) * (M8.bs b t b 0 : Nat) + b + t = (t : Int) * b + (Nat.gcd t b : Nat) := by exact_mod_cast h
  rw [e]
  generalize (t : Int) * b = x at *
  omega
theorem BS_rect {t b w : Int} (t0 : 1 ≤ t) (b0 : 1 ≤ b) (w0 : 0 ≤ w) : BS (w + 1) t b + BS (w * t / b + 1) b t = w * (w * t / b) + w / (b / GC t b) := by
  obtain ⟨t, rfl⟩ : ∃ n : Nat, t = n := ⟨t.toNat, by omega⟩
  obtain ⟨b, rfl⟩ : ∃ n : Nat, b = n := ⟨b.toNat, by omega⟩
  obtain ⟨w, rfl⟩ : ∃ n : Nat, w = n := ⟨w.toNat, by omega⟩
  have h := M8.rect w t b (by omega) (by omega)
  unfold BS GC
  have e1 : ((w : Int) + 1).toNat = w + 1 := by omega
  have e2 : ((w : Int) * t / b + 1).toNat = w * t / b + 1 := by
    have : (w : Int) * t / b + 1 = ((w * t / b + 1 : Nat) : Int) := by push_cast; rfl
    rw [this, Int.toNat_natCast]
  simp only [Int.toNat_natCast, e1, e2]
  exact_mod_cast h
theorem BS_add {t b m k : Int} (t0 : 0 ≤ t) (b0 : 1 ≤ b) (m0 : 0 ≤ m) (k0 : 0 ≤ k) : BS m (t + k * b) b = BS m t b + k * (m * (m - 1) / 2) := by
  obtain ⟨t, rfl⟩ : ∃ n : Nat, t = n := ⟨t.toNat, by omega⟩
  obtain ⟨b, rfl⟩ : ∃ n : Nat, b = n := ⟨b.toNat, by omega⟩
  obtain ⟨m, rfl⟩ : ∃ n : Nat, m = n := ⟨m.toNat, by omega⟩
  obtain ⟨k, rfl⟩ : ∃ n : Nat, k = n := ⟨k.toNat, by omega⟩
  have h := M8.bs_add m t b 0 k (by omega)
  unfold BS
  have e2 : ((t : Int) + k * b).toNat = t + k * b := by
    have : (t : Int) + k * b = ((t + k * b : Nat) : Int) := by push_cast; rfl
    rw [this, Int.toNat_natCast]
  simp only [Int.toNat_natCast, e2]
  rw [h, tri_i]
  push_cast
  rfl
theorem BS_scale {t b m : Int} (t0 : 1 ≤ t) (b0 : 1 ≤ b) : BS m (t / GC t b) (b / GC t b) = BS m t b := by
  obtain ⟨t, rfl⟩ : ∃ n : Nat, t = n := ⟨t.toNat, by omega⟩
  obtain ⟨b, rfl⟩ : ∃ n : Nat, b = n := ⟨b.toNat, by omega⟩
  unfold BS GC
  have hg : 0 < Nat.gcd t b := Nat.gcd_pos_of_pos_right t (by omega)
  have e1 : ((t : Int) / (Nat.gcd t b : Nat)).toNat = t / Nat.gcd t b := by
    rw [← Int.natCast_ediv, Int.toNat_natCast]
  have e2 : ((b : Int) / (Nat.gcd t b : Nat)).toNat = b / Nat.gcd t b := by
    rw [← Int.natCast_ediv, Int.toNat_natCast]
  simp only [Int.toNat_natCast, e1, e2]
  have h := M8.bs_scale m.toNat (t / Nat.gcd t b) (b / Nat.gcd t b) (Nat.gcd t b) hg
  rw [Nat.mul_div_cancel' (Nat.gcd_dvd_left t b), Nat.mul_div_cancel' (Nat.gcd_dvd_right t b)] at h
  rw [h]
theorem BS_zero (t b : Int) : BS 0 t b = 0 := rfl
theorem bs_le (a b c : Nat) : ∀ m, M8.bs m a b c ≤ m * (a * m + c)
  | 0 => by simp [M8.bs, M8.S]
  | m + 1 => by
    have h := bs_le a b c m
    have h1 : (a * m + c) / b ≤ a * m + c := Nat.div_le_self _ _
    have h2 : a * (m + 1) = a * m + a := by rw [Nat.mul_add, Nat.mul_one]
    have h3 : m * (a * m + c) ≤ m * (a * (m + 1) + c) := Nat.mul_le_mul_left m (by omega)
    show M8.bs m a b c + (a * m + c) / b ≤ (m + 1) * (a * (m + 1) + c)
    rw [Nat.add_mul, Nat.one_mul]
    omega
theorem BS_tiny {l u d : Int} (l1 : l ≤ 1000000000) (u1 : u ≤ 1000000000) : tiny (BS l u d) := by
  have h := bs_le u.toNat d.toNat 0 l.toNat
  have hl : l.toNat ≤ 1000000000 := by omega
  have hu : u.toNat ≤ 1000000000 := by omega
  have h2 : u.toNat * l.toNat ≤ 1000000000 * 1000000000 := Nat.mul_le_mul hu hl
  have h3 : l.toNat * (u.toNat * l.toNat + 0) ≤ 1000000000 * (1000000000 * 1000000000) := Nat.mul_le_mul hl (by omega)
  have h4 : (0 : Int) ≤ BS l u d := by unfold BS; omega
  have h5 : BS l u d ≤ 1000000000000000000000000000 := by unfold BS; omega
  exact tiny_of (by omega) (by omega)
/-! the law of bills -/
theorem bills {h : D} (hh : HOK h) : ∃ h', runI 12 m__law_are_bills_right h [] = some (.bool true, h') ∧ HOK h' := by
  obtain ⟨t, h1, k1, t1, t2, ok1⟩ := v_great hh
  obtain ⟨b, h2, k2, b1, b2', ok2⟩ := v_great ok1
  have t1 : (1 : Int) ≤ t := by omega
  have b1 : (1 : Int) ≤ b := by omega
  generalize (t : Int) = t at *
  generalize (b : Int) = b at *
  have kg := v_gc (t := t) (b := b) (by omega) (by omega) b2'
  have g1 := gc_pos (t := t) b1
  have g2 := gc_le (t := t) b1
  have g3 := gc_le' (b := b) t1
  have c1 := BS_closed t1 b1
  have c2 : BS t b t = ((t - 1) * (b - 1) + GC t b - 1) / 2 := by
    rw [BS_closed b1 t1, Int.mul_comm, gc_comm]
  have cr := fun w hw => BS_rect (w := w) t1 b1 hw
  have sc := fun m => BS_scale (m := m) t1 b1
  generalize GC t b = g at *
  have f1 := v_fb (l := b) (u := t) (d := b) (by omega) b2' (by omega) t2 b1 b2'
  have f2 := v_fb (l := t) (u := b) (d := t) (by omega) t2 (by omega) b2' t1 t2
  have tn1 := BS_tiny (l := b) (u := t) (d := b) b2' t2
  rw [c1] at f1 tn1
  rw [c2] at f2
  have e1 := is2 tn1 tn1
  have q1 : ∀ x : Int, mulA (.int (t - 1)) (.int x) = some (.int ((t - 1) * x)) := fun x => mul_i (by simp [sm_of (j := t - 1) (by omega) (by omega)])
  have q2 : ∀ x : Int, fdivD (.int x) (.int 2) = some (.int (x / 2)) := fun x => fdiv_i (by omega)
  have q3 : mulA (.int 1000000000) (.int b) = some (.int (1000000000 * b)) := mul_i (by simp [sm_of (j := b) (by omega) (by omega)])
  have q4 : ∀ x : Int, fdivD (.int x) (.int t) = some (.int (x / t)) := fun x => fdiv_i (by omega)
  have q5 : ∀ x : Int, mulA (.int x) (.int t) = some (.int (x * t)) := fun x => mul_i (by simp [sm_of (j := t) (by omega) (by omega)])
  have q6 : ∀ x : Int, fdivD (.int x) (.int b) = some (.int (x / b)) := fun x => fdiv_i (by omega)
  have q7 : ∀ x : Int, fdivD (.int x) (.int g) = some (.int (x / g)) := fun x => fdiv_i (by omega)
  have q8 : ∀ x : Int, mulA (.int x) (.int b) = some (.int (x * b)) := fun x => mul_i (by simp [sm_of (j := b) (by omega) (by omega)])
  have y1 : 1 ≤ 1000000000 * b / t := by
    rw [Int.le_ediv_iff_mul_le (by omega)]
    omega
  obtain ⟨w, h3, k3, w1, w2, ok3⟩ := v_draw (k := if 1000000000 * b / t < 1000000000 then 1000000000 * b / t else 1000000000) ok2 (by split <;> omega)
  have w3 : w < 1000000000 := by split at w2 <;> omega
  have r1 := cr w w1
  have hi0 : 0 ≤ w * t / b := Int.ediv_nonneg (Int.mul_nonneg w1 (by omega)) (by omega)
  have f3 := v_fb (l := w + 1) (u := t) (d := b) (by omega) (by omega) (by omega) t2 b1 b2'
  have f4 := fun z : w * t / b < 1000000000 => v_fb (l := w * t / b + 1) (u := b) (d := t) (by omega) (by omega) (by omega) b2' t1 t2
  generalize hhi : w * t / b = hi at *
  have bg1 : 1 ≤ b / g := by rw [Int.le_ediv_iff_mul_le (by omega)]; omega
  have bg2 : b / g ≤ b := Int.ediv_le_self _ (by omega)
  have tg1 : 1 ≤ t / g := by rw [Int.le_ediv_iff_mul_le (by omega)]; omega
  have tg2 : t / g ≤ t := Int.ediv_le_self _ (by omega)
  have q9 : ∀ x : Int, mulA (.int w) (.int x) = some (.int (w * x)) := fun x => mul_i (by simp [sm_of (j := w) (by omega) (by omega)])
  have q10 : ∀ x : Int, fdivD (.int x) (.int (b / g)) = some (.int (x / (b / g))) := fun x => fdiv_i (by omega)
  obtain ⟨m, h4, k4, m1, m2, ok4⟩ := v_draw (k := 1000000000 + 1) ok3 (by omega)
  obtain ⟨k, h5, k5, p1, p2, ok5⟩ := v_draw (k := 5) ok4 (by omega)
  have ad := BS_add (t := t) (b := b) (m := m) (k := k) (by omega) b1 m1 p1
  have kb : 0 ≤ k * b := Int.mul_nonneg p1 (by omega)
  have f5 := fun z : t + k * b ≤ 1000000000 => v_fb (l := m) (u := t + k * b) (d := b) m1 (by omega) (by omega) z b1 b2'
  have f6 := v_fb (l := m) (u := t) (d := b) m1 (by omega) (by omega) t2 b1 b2'
  have f7 := v_fb (l := m) (u := t / g) (d := b / g) m1 (by omega) (by omega) (by omega) bg1 (by omega)
  have f8 := v_fb (l := 0) (u := t) (d := b) (by omega) (by omega) (by omega) t2 b1 b2'
  have tn2 := BS_tiny (l := m) (u := t) (d := b) (by omega) t2
  have e2 := is2 tn2 (tiny_of (i := 0) (by omega) (by omega))
  rw [BS_zero] at f8
  rw [sc m] at f7
  have q11 : ∀ x : Int, mulA (.int m) (.int x) = some (.int (m * x)) := fun x => mul_i (by simp [sm_of (j := m) (by omega) (by omega)])
  have q12 : ∀ x : Int, mulA (.int k) (.int x) = some (.int (k * x)) := fun x => mul_i (by simp [sm_of (j := k) (by omega) (by omega)])
  refine ⟨h5, ?_, ok5⟩
  rw [runI_d]
  unfold m__law_are_bills_right
  simp only [envP, List.map_nil, List.nil_append, List.replicate, Nat.reduceSub, List.length_nil, ap_seqS, ap_ifS, ap_tNo, ap_tAn, ap_tOr, ap_tv, ap_vAn, ap_vNo, ap_cl, ap_clI, ap_cb, ap_aCons, ap_aNil, ap_nm, gv_s, gv_0, go_0, Option.map_some, Option.bind_some, ap_rt, ap_bd, ap_lf, ap_fr, ap_b2, ap_u1, List.length_cons, List.length_nil, Nat.zero_add, Nat.reduceAdd, if_true, ap_asB, Bool.not_true, Bool.not_false, Bool.false_eq_true, if_false, ap_nxS, oc_nx, oc_rt, ap_drp, ap_asgS, ap_retS, ap_parS, ap_mV, ap_mNil, setAll_cons, setAll_nil, List.set_cons_succ, List.set_cons_zero, add_i, sub_i, lt_i, le_i, gt_i, ge_i, ne_i, eq_i, int_i, min2_i, max2_i, short2, short3, short4, ap_tupS, outI_rt, outP_rt, pow9, k1, k2, kg, f1, f2, e1, q1, q2, q3, q4, q5, q6, k3, hhi]
  by_cases a1 : hi < 1000000000
  · have a1' : decide (hi < 1000000000) = true := by simpa using a1
    have r2 : (!(BS (w + 1) t b + BS (hi + 1) b t == w * hi + w / (b / g))) = false := by simp [r1]
    by_cases a2 : t + k * b ≤ 1000000000
    · have a2' : decide (t + k * b ≤ 1000000000) = true := by simpa using a2
      have r3 : (!(BS m (t + k * b) b - BS m t b == k * (m * (m - 1) / 2))) = false := by rw [ad]; simp; omega
      simp only [ap_seqS, ap_ifS, ap_tNo, ap_tAn, ap_tOr, ap_tv, ap_vAn, ap_vNo, ap_cl, ap_clI, ap_cb, ap_aCons, ap_aNil, ap_nm, gv_s, gv_0, go_0, Option.map_some, Option.bind_some, ap_rt, ap_bd, ap_lf, ap_fr, ap_b2, ap_u1, List.length_cons, List.length_nil, Nat.zero_add, Nat.reduceAdd, if_true, ap_asB, Bool.not_true, Bool.not_false, Bool.false_eq_true, if_false, ap_nxS, oc_nx, oc_rt, ap_drp, ap_asgS, ap_retS, ap_parS, ap_mV, ap_mNil, setAll_cons, setAll_nil, List.set_cons_succ, List.set_cons_zero, add_i, sub_i, lt_i, le_i, gt_i, ge_i, ne_i, eq_i, int_i, min2_i, max2_i, short2, short3, short4, ap_tupS, outI_rt, outP_rt, a1', a2', f3, f4 a1, q7, q9, q10, r2, pow9, k4, k5, q8, f5 a2, f6, q11, q12, q2, r3, f7, f8, e2]
    · have a2' : decide (t + k * b ≤ 1000000000) = false := by simpa using a2
      simp only [ap_seqS, ap_ifS, ap_tNo, ap_tAn, ap_tOr, ap_tv, ap_vAn, ap_vNo, ap_cl, ap_clI, ap_cb, ap_aCons, ap_aNil, ap_nm, gv_s, gv_0, go_0, Option.map_some, Option.bind_some, ap_rt, ap_bd, ap_lf, ap_fr, ap_b2, ap_u1, List.length_cons, List.length_nil, Nat.zero_add, Nat.reduceAdd, if_true, ap_asB, Bool.not_true, Bool.not_false, Bool.false_eq_true, if_false, ap_nxS, oc_nx, oc_rt, ap_drp, ap_asgS, ap_retS, ap_parS, ap_mV, ap_mNil, setAll_cons, setAll_nil, List.set_cons_succ, List.set_cons_zero, add_i, sub_i, lt_i, le_i, gt_i, ge_i, ne_i, eq_i, int_i, min2_i, max2_i, short2, short3, short4, ap_tupS, outI_rt, outP_rt, a1', a2', f3, f4 a1, q7, q9, q10, r2, pow9, k4, k5, q8, f6, q11, q12, q2, f7, f8, e2]
  · have a1' : decide (hi < 1000000000) = false := by simpa using a1
    by_cases a2 : t + k * b ≤ 1000000000
    · have a2' : decide (t + k * b ≤ 1000000000) = true := by simpa using a2
      have r3 : (!(BS m (t + k * b) b - BS m t b == k * (m * (m - 1) / 2))) = false := by rw [ad]; simp; omega
      simp only [ap_seqS, ap_ifS, ap_tNo, ap_tAn, ap_tOr, ap_tv, ap_vAn, ap_vNo, ap_cl, ap_clI, ap_cb, ap_aCons, ap_aNil, ap_nm, gv_s, gv_0, go_0, Option.map_some, Option.bind_some, ap_rt, ap_bd, ap_lf, ap_fr, ap_b2, ap_u1, List.length_cons, List.length_nil, Nat.zero_add, Nat.reduceAdd, if_true, ap_asB, Bool.not_true, Bool.not_false, Bool.false_eq_true, if_false, ap_nxS, oc_nx, oc_rt, ap_drp, ap_asgS, ap_retS, ap_parS, ap_mV, ap_mNil, setAll_cons, setAll_nil, List.set_cons_succ, List.set_cons_zero, add_i, sub_i, lt_i, le_i, gt_i, ge_i, ne_i, eq_i, int_i, min2_i, max2_i, short2, short3, short4, ap_tupS, outI_rt, outP_rt, a1', a2', q7, q9, q10, pow9, k4, k5, q8, f5 a2, f6, q11, q12, q2, r3, f7, f8, e2]
    · have a2' : decide (t + k * b ≤ 1000000000) = false := by simpa using a2
      simp only [ap_seqS, ap_ifS, ap_tNo, ap_tAn, ap_tOr, ap_tv, ap_vAn, ap_vNo, ap_cl, ap_clI, ap_cb, ap_aCons, ap_aNil, ap_nm, gv_s, gv_0, go_0, Option.map_some, Option.bind_some, ap_rt, ap_bd, ap_lf, ap_fr, ap_b2, ap_u1, List.length_cons, List.length_nil, Nat.zero_add, Nat.reduceAdd, if_true, ap_asB, Bool.not_true, Bool.not_false, Bool.false_eq_true, if_false, ap_nxS, oc_nx, oc_rt, ap_drp, ap_asgS, ap_retS, ap_parS, ap_mV, ap_mNil, setAll_cons, setAll_nil, List.set_cons_succ, List.set_cons_zero, add_i, sub_i, lt_i, le_i, gt_i, ge_i, ne_i, eq_i, int_i, min2_i, max2_i, short2, short3, short4, ap_tupS, outI_rt, outP_rt, a1', a2', q7, q9, q10, pow9, k4, k5, q8, f6, q11, q12, q2, f7, f8, e2]
end Lw

namespace Lw
open PySem PySem.Spec PyProof.Rows L2 DL
theorem gv_ne {e : En} {i j : Nat} {s : Sl} (h : i ≠ j) : gv (e.set i s) j = gv e j := by
  apply Option.ext
  intro d
  rw [gv_eq, gv_eq, List.getElem?_set, if_neg h]
theorem gv_same {e : En} {i : Nat} {d : D} {s : Sl} (h : e[i]? = some s) : gv (e.set i (.v d)) i = some d := by
  rw [gv_eq, List.getElem?_set, if_pos rfl]
  have : i < e.length := by
    rcases Nat.lt_or_ge i e.length with z | z
    · exact z
    · rw [List.getElem?_eq_none z] at h; cases h
  rw [if_pos this]
/-! has -/
theorem has_true {t b s N : Int} (t1 : 1 ≤ t) (b1 : 1 ≤ b) (bt : b ≤ t) (s0 : 0 ≤ s) (N0 : 0 ≤ N) : hasB t b s ((N * t + s) / b) = true := by
  have a1 := Int.ediv_mul_le (N * t + s) (show b ≠ 0 by omega)
  have a2 := Int.lt_ediv_add_one_mul_self (N * t + s) (show 0 < b by omega)
  generalize (N * t + s) / b = n at *
  have a3 := Int.ediv_mul_le (s - n * b) (show t ≠ 0 by omega)
  have a4 := Int.lt_ediv_add_one_mul_self (s - n * b) (show 0 < t by omega)
  unfold hasB
  generalize (s - n * b) / t = q at *
  rw [Int.add_mul, Int.one_mul] at a2 a4
  have Nt : 0 ≤ N * t := Int.mul_nonneg N0 (by omega)
  have q0 : q ≤ 0 := by
    rcases Int.lt_or_le 0 q with z | z
    · have := Int.mul_le_mul_of_nonneg_right (show 1 ≤ q by omega) (show 0 ≤ t by omega)
      omega
    · exact z
  have q1 : -q ≤ N := by
    rcases Int.lt_or_le N (-q) with z | z
    · have := Int.mul_le_mul_of_nonneg_right (show q + 1 ≤ -N by omega) (show 0 ≤ t by omega)
      rw [Int.add_mul, Int.one_mul, Int.neg_mul] at this
      omega
    · exact z
  have q2 := Int.mul_le_mul_of_nonneg_right q1 (show 0 ≤ t by omega)
  have e : (-q * t + s) / b = n := by
    rw [Int.ediv_eq_iff_of_pos (by omega)]
    rw [Int.neg_mul] at *
    have : b * n = n * b := Int.mul_comm _ _
    first | omega | (constructor <;> omega)
  rw [e]
  simp
  omega
theorem has_false {t b s N : Int} (t1 : 1 ≤ t) (b1 : 1 ≤ b) (h : (N * t + s) / b + 1 < ((N + 1) * t + s) / b) : hasB t b s ((N * t + s) / b + 1) = false := by
  have a1 := Int.ediv_mul_le ((N + 1) * t + s) (show b ≠ 0 by omega)
  have a2 := Int.lt_ediv_add_one_mul_self (N * t + s) (show 0 < b by omega)
  generalize (N * t + s) / b = n at *
  generalize ((N + 1) * t + s) / b = l at *
  have a3 := Int.ediv_mul_le (s - (n + 1) * b) (show t ≠ 0 by omega)
  unfold hasB
  generalize (s - (n + 1) * b) / t = q at *
  have l2 := Int.mul_le_mul_of_nonneg_right (show n + 2 ≤ l by omega) (show 0 ≤ b by omega)
  cases hz : ((-q * t + s) / b == n + 1) with
  | false => simp
  | true =>
    exfalso
    have hz : (-q * t + s) / b = n + 1 := by simpa using hz
    have a5 := Int.lt_ediv_add_one_mul_self (-q * t + s) (show 0 < b by omega)
    have a6 := Int.ediv_mul_le (-q * t + s) (show b ≠ 0 by omega)
    rw [hz] at a5 a6
    have e2 : (n + 1 + 1) * b = (n + 2) * b := by congr 1; omega
    rw [e2] at a5
    rw [Int.add_mul N, Int.one_mul] at a1
    have q1 : -q ≤ N := by
      rcases Int.lt_or_le N (-q) with z | z
      · have := Int.mul_le_mul_of_nonneg_right (show N + 1 ≤ -q by omega) (show 0 ≤ t by omega)
        rw [Int.add_mul, Int.one_mul] at this
        omega
      · exact z
    have q2 := Int.mul_le_mul_of_nonneg_right q1 (show 0 ≤ t by omega)
    omega
/-! sums over ranges -/
theorem sum_S (f : Nat → Nat) : ∀ k, ((List.range k).map fun i => ((f i : Nat) : Int)).sum = (M8.S k f : Nat)
  | 0 => rfl
  | k + 1 => by
    rw [List.range_succ, List.map_append, List.sum_append, sum_S f k]
    show (M8.S k f : Int) + (((f k : Nat) : Int) + 0) = ((M8.S k f + f k : Nat) : Int)
    omega
theorem tele (t b s : Int) : ∀ k : Nat, ((List.range k).map fun (i : Nat) => (((i : Int) + 1) * t + s) / b - ((i : Int) * t + s) / b).sum = ((k : Int) * t + s) / b - (0 * t + s) / b
  | 0 => by simp
  | k + 1 => by
    rw [List.range_succ, List.map_append, List.sum_append, tele t b s k]
    simp only [List.map_cons, List.map_nil, List.sum_cons, List.sum_nil]
    have : ((k + 1 : Nat) : Int) = (k : Int) + 1 := by omega
    rw [this]
    omega
theorem steps_ints (t b s : Int) (k : Nat) : (DL.upTo 0 k).map (stepD t b s) = ((List.range k).map fun (i : Nat) => (((i : Int) + 1) * t + s) / b - ((i : Int) * t + s) / b).map PyData.int := by
  unfold DL.upTo
  rw [List.map_map, List.map_map]
  refine List.map_congr_left fun i _ => ?_
  show stepD t b s (.int (0 + (i : Int))) = _
  rw [Int.zero_add]
  rfl
theorem sum_t (ns : List Int) : sumD [.tuple (ns.map .int)] = some (.int ns.sum) := by
  show (intsOf (ns.map .int)).map (fun ns => PyData.int ns.sum) = _
  rw [intsOf_map]
  rfl
theorem sum_l (ns : List Int) : sumD [.list (ns.map .int)] = some (.int ns.sum) := by
  show (intsOf (ns.map .int)).map (fun ns => PyData.int ns.sum) = _
  rw [intsOf_map]
  rfl
theorem steps_sum {t b s g : Int} (b1 : 1 ≤ b) (g1 : 1 ≤ g) (gb : g ∣ b) (gt : g ∣ t) (q0 : 0 ≤ b / g) : sumD [.tuple ((DL.upTo 0 (b / g).toNat).map (stepD t b s))] = some (.int (t / g)) := by
  rw [steps_ints, sum_t, tele]
  have e0 : (((b / g).toNat : Nat) : Int) = b / g := Int.toNat_of_nonneg q0
  rw [e0]
  have e1 : b / g * t = b * (t / g) := by
    obtain ⟨x, rfl⟩ := gb
    obtain ⟨y, rfl⟩ := gt
    rw [Int.mul_ediv_cancel_left _ (by omega), Int.mul_ediv_cancel_left _ (by omega), Int.mul_left_comm, Int.mul_assoc]
  rw [e1, Int.zero_mul, Int.zero_add, Int.add_comm, Int.add_mul_ediv_left _ _ (by omega)]
  congr 2
  omega
/-! the shifted floors -/
def shD (t b : Int) (d : D) : D := .tuple [.int t, .int b, d]
def shL : ME (List D) := lcS (rngI rng1D (aCons (nm 2) (aNil))) (gNm 16) (rt true) (tupS (aCons (nm 1) (aCons (nm 2) (aCons (nm 16) (aNil))))) [16]
theorem sh_L {e : En} {t b : Int} (b0 : 0 ≤ b) (b1 : b ≤ 1000) (h1 : gv e 1 = some (.int t)) (h2 : gv e 2 = some (.int b)) (hu : e[16]? = some .u) : shL e = some ((DL.upTo 0 b.toNat).map (shD t b), e) := by
  have hi : rngI rng1D (aCons (nm 2) aNil) e = some (DL.upTo 0 b.toNat, e) := by
    have : rng1D [.int b] = some (DL.upTo 0 b.toNat) := if_pos (by omega)
    simp only [ap_rngI, ap_aCons, ap_nm, h2, Option.map_some, Option.bind_some, ap_aNil, this]
  refine lc_map hi hu (by rw [len_upTo]; omega) fun d hd => ?_
  simp only [ap_tupS, ap_aCons, ap_aNil, ap_nm, gv_ne (show 16 ≠ 1 by decide), gv_ne (show 16 ≠ 2 by decide), gv_same hu, h1, h2, Option.map_some, Option.bind_some, short3]
  rfl
def whD (N t b : Int) : D → D
  | .tuple [_, _, .int c] => .int ((N * t + c) / b)
  | d => d
def whL : ME (List D) := lcS (seqI (nm 12)) (gNm 17) (rt true) (cl 2 (runP 2 m_floor_at) (aCons (nm 17) (aCons (nm 7) (aNil)))) [17]
theorem wh_L {e : En} {t b N : Int} (hf : FlOk t b 0) (N0 : 0 ≤ N ∧ N ≤ 10000000000000000000000000000000000000000) (h1 : gv e 12 = some (.list ((DL.upTo 0 b.toNat).map (shD t b)))) (h2 : gv e 7 = some (.int N)) (hu : e[17]? = some .u) : whL e = some (((DL.upTo 0 b.toNat).map (shD t b)).map (whD N t b), e) := by
  have i1 := hf.a1; have i2 := hf.a2; have i3 := hf.b1; have i4 := hf.b2
  have hi : seqI (nm 12) e = some ((DL.upTo 0 b.toNat).map (shD t b), e) := by
    simp only [ap_seqI, ap_nm, h1, Option.map_some, Option.bind_some]
    rfl
  refine lc_map hi hu (by rw [List.length_map, len_upTo]; omega) fun d hd => ?_
  obtain ⟨d', hd', rfl⟩ := List.mem_map.mp hd
  obtain ⟨p, rfl, p0, p1⟩ := mem_upTo hd'
  have hp : FlOk t b p := ⟨i1, i2, i3, i4, p0, by omega⟩
  have ha := v_floor_at hp N0
  have e1 : shD t b (.int p) = FlD t b p := rfl
  rw [e1]
  simp only [ap_cl, ap_aCons, ap_aNil, ap_nm, gv_ne (show 17 ≠ 7 by decide), gv_same hu, h2, Option.map_some, Option.bind_some, List.length_cons, List.length_nil, Nat.zero_add, Nat.reduceAdd, if_true, ha]
  rfl
def smD (m t b : Int) : D → D
  | .tuple [_, _, .int c] => .int (FS m t b c)
  | d => d
def smL : ME (List D) := lcS (seqI (nm 12)) (gNm 17) (rt true) (cl 2 (runP 8 m_floor_sum) (aCons (nm 6) (aCons (nm 17) (aNil)))) [17]
theorem sm_L {e : En} {t b m : Int} (hf : FlOk t b 0) (m0 : 0 ≤ m) (m1 : m ≤ 1000000000) (h1 : gv e 12 = some (.list ((DL.upTo 0 b.toNat).map (shD t b)))) (h2 : gv e 6 = some (.int m)) (hu : e[17]? = some .u) : smL e = some (((DL.upTo 0 b.toNat).map (shD t b)).map (smD m t b), e) := by
  have i1 := hf.a1; have i2 := hf.a2; have i3 := hf.b1; have i4 := hf.b2
  have hi : seqI (nm 12) e = some ((DL.upTo 0 b.toNat).map (shD t b), e) := by
    simp only [ap_seqI, ap_nm, h1, Option.map_some, Option.bind_some]
    rfl
  refine lc_map hi hu (by rw [List.length_map, len_upTo]; omega) fun d hd => ?_
  obtain ⟨d', hd', rfl⟩ := List.mem_map.mp hd
  obtain ⟨p, rfl, p0, p1⟩ := mem_upTo hd'
  have hp : FlOk t b p := ⟨i1, i2, i3, i4, p0, by omega⟩
  have ha := v_fs m0 m1 hp
  have e1 : shD t b (.int p) = FlD t b p := rfl
  rw [e1]
  simp only [ap_cl, ap_aCons, ap_aNil, ap_nm, gv_ne (show 17 ≠ 6 by decide), gv_same hu, h2, Option.map_some, Option.bind_some, List.length_cons, List.length_nil, Nat.zero_add, Nat.reduceAdd, if_true, ha]
  rfl
theorem wh_sum {N t b : Int} (N0 : 0 ≤ N) (t0 : 0 ≤ t) (b1 : 1 ≤ b) : sumD [.list (((DL.upTo 0 b.toNat).map (shD t b)).map (whD N t b))] = some (.int (N * t)) := by
  obtain ⟨N, rfl⟩ : ∃ n : Nat, N = n := ⟨N.toNat, by omega⟩
  obtain ⟨t, rfl⟩ : ∃ n : Nat, t = n := ⟨t.toNat, by omega⟩
  obtain ⟨b, rfl⟩ : ∃ n : Nat, b = n := ⟨b.toNat, by omega⟩
  have e : ((DL.upTo 0 (b : Int).toNat).map (shD t b)).map (whD N t b) = ((List.range b).map fun i => (((N * t + i) / b : Nat) : Int)).map PyData.int := by
    unfold DL.upTo
    rw [Int.toNat_natCast, List.map_map, List.map_map, List.map_map]
    refine List.map_congr_left fun i _ => ?_
    show PyData.int (((N : Int) * t + (0 + (i : Int))) / b) = PyData.int (((N * t + i) / b : Nat) : Int)
    rw [Int.zero_add]
    push_cast
    rfl
  rw [e, sum_l, sum_S (fun i => (N * t + i) / b), M8.hermite b (by omega)]
  push_cast
  rfl
theorem sm_sum {m t b : Int} (m0 : 0 ≤ m) (t0 : 0 ≤ t) (b1 : 1 ≤ b) : sumD [.list (((DL.upTo 0 b.toNat).map (shD t b)).map (smD m t b))] = some (.int (t * (m * (m - 1) / 2))) := by
  obtain ⟨m, rfl⟩ : ∃ n : Nat, m = n := ⟨m.toNat, by omega⟩
  obtain ⟨t, rfl⟩ : ∃ n : Nat, t = n := ⟨t.toNat, by omega⟩
  obtain ⟨b, rfl⟩ : ∃ n : Nat, b = n := ⟨b.toNat, by omega⟩
  have e : ((DL.upTo 0 (b : Int).toNat).map (shD t b)).map (smD m t b) = ((List.range b).map fun i => ((M8.bs m t b i : Nat) : Int)).map PyData.int := by
    unfold DL.upTo
    rw [Int.toNat_natCast, List.map_map, List.map_map, List.map_map]
    refine List.map_congr_left fun i _ => ?_
    show PyData.int (FS m t b (0 + (i : Int))) = PyData.int ((M8.bs m t b i : Nat) : Int)
    rw [Int.zero_add]
    rfl
  rw [e, sum_l, sum_S (fun i => M8.bs m t b i), M8.hermite_bs m t b (by omega), tri_i]
  push_cast
  rfl
theorem FS_shift {m t b s : Int} (m0 : 0 ≤ m) (t0 : 0 ≤ t) (b1 : 1 ≤ b) (s0 : 0 ≤ s) : FS m t b s = FS m t b (s % b) + m * (s / b) := by
  obtain ⟨m, rfl⟩ : ∃ n : Nat, m = n := ⟨m.toNat, by omega⟩
  obtain ⟨t, rfl⟩ : ∃ n : Nat, t = n := ⟨t.toNat, by omega⟩
  obtain ⟨b, rfl⟩ : ∃ n : Nat, b = n := ⟨b.toNat, by omega⟩
  obtain ⟨s, rfl⟩ : ∃ n : Nat, s = n := ⟨s.toNat, by omega⟩
  have h := M8.bs_shift m t b (s % b) (s / b) (by omega)
  have e : s % b + s / b * b = s := by rw [Nat.mul_comm]; exact Nat.mod_add_div s b
  rw [e] at h
  unfold FS
  have e2 : ((s : Int) % b).toNat = s % b := by rw [← Int.natCast_emod, Int.toNat_natCast]
  simp only [Int.toNat_natCast, e2]
  rw [h, Nat.mul_comm (s / b)]
  push_cast
  rfl
theorem FS_zero (m t b : Int) : FS m t b 0 = BS m t b := rfl
end Lw

namespace Lw
open PySem PySem.Spec PyProof.Rows L2 DL
theorem gc_dvd {t b : Int} (t0 : 0 ≤ t) (b0 : 0 ≤ b) : GC t b ∣ b ∧ GC t b ∣ t := by
  obtain ⟨t, rfl⟩ : ∃ n : Nat, t = n := ⟨t.toNat, by omega⟩
  obtain ⟨b, rfl⟩ : ∃ n : Nat, b = n := ⟨b.toNat, by omega⟩
  exact ⟨Int.natCast_dvd_natCast.mpr (Nat.gcd_dvd_right t b), Int.natCast_dvd_natCast.mpr (Nat.gcd_dvd_left t b)⟩
theorem is3 {x y : Int} {c : Bool} (hx : tiny x) (hy : tiny y) : runP 2 m__law_is [.list [.int x, .int y, .bool c], .list [.int x, .int y, .bool c]] = some (.bool true) := by
  refine v_law_is ?_
  have : ∀ d ∈ [PyData.int x, .int y, .bool c], Oks d 0 200 := fun d hd => by
    simp at hd
    rcases hd with rfl | rfl | rfl
    · exact Oks.int hx 0
    · exact Oks.int hy 0
    · exact Oks.bool c 0 200
  exact (Oks.list this).ok (by omega) (by simp)
theorem is1 {x : Int} (hx : tiny x) : runP 2 m__law_is [.int x, .int x] = some (.bool true) := v_law_is ((Oks.int hx 0).ok (by omega) (by omega))
theorem steps_len (t b s : Int) (k : Nat) : lenD [.tuple ((DL.upTo 0 k).map (stepD t b s))] = some (.int k) := by
  rw [len_t, List.length_map, len_upTo]
theorem isNot_b (a b : Bool) : isNotD (.bool a) (.bool b) = some (.bool (!(a == b))) := rfl
theorem floors {h : D} (hh : HOK h) : ∃ h', runI 18 m__law_are_floors_right h [] = some (.bool true, h') ∧ HOK h' := by
  obtain ⟨t0, h1, k1, t1, t2, ok1⟩ := v_draw (k := 40) hh (by omega)
  obtain ⟨b0, h2, k2, b1, b2', ok2⟩ := v_draw (k := 1 + t0) ok1 (by omega)
  obtain ⟨s, h3, k3, s1, s2, ok3⟩ := v_draw (k := 41) ok2 (by omega)
  obtain ⟨x1, h4, k4, x2, x3, ok4⟩ := v_draw (k := 1000000000) ok3 (by omega)
  obtain ⟨y1, h5, k5, y2, y3, ok5⟩ := v_draw (k := 100) ok4 (by omega)
  obtain ⟨dm, h6, hdm, k6, ok6⟩ := v_any (ds := [.int 1000000000, .int x1, .int y1]) ok5 (by simp) (by simp)
  have hm : ∃ m : Int, dm = .int m ∧ 0 ≤ m ∧ m ≤ 1000000000 := by
    simp at hdm
    rcases hdm with rfl | rfl | rfl <;> exact ⟨_, rfl, by omega, by omega⟩
  obtain ⟨m, rfl, m0, m1⟩ := hm
  obtain ⟨z1, h7, k7, z2, z3, ok7⟩ := v_draw (k := 100) ok6 (by omega)
  obtain ⟨z4, h8, k8, z5, z6, ok8⟩ := v_draw (k := 1000000) ok7 (by omega)
  obtain ⟨dn, h9, hdn, k9, ok9⟩ := v_any (ds := [.int z1, .int (1000000000000000000000000000000 + z4)]) ok8 (by simp) (by simp)
  have hn : ∃ m : Int, dn = .int m ∧ 0 ≤ m ∧ m ≤ 1000001000000000000000000000000 := by
    simp at hdn
    rcases hdn with rfl | rfl <;> exact ⟨_, rfl, by omega, by omega⟩
  obtain ⟨N, rfl, N0, N1⟩ := hn
  obtain ⟨t, rfl⟩ : ∃ t, t0 = t - 1 := ⟨t0 + 1, by omega⟩
  obtain ⟨b, rfl⟩ : ∃ t, b0 = t - 1 := ⟨b0 + 1, by omega⟩
  have et : 1 + (t - 1) = t := by omega
  have eb : 1 + (b - 1) = b := by omega
  rw [et] at k2 b2'
  have t1 : 1 ≤ t := by omega
  have t2 : t ≤ 40 := by omega
  have b1 : 1 ≤ b := by omega
  have b2' : b ≤ t := by omega
  have kg := v_gc (t := t) (b := b) (by omega) (by omega) (by omega)
  have kc := v_cp (t := t) (b := b) (by omega) (by omega) (by omega)
  have g1 := gc_pos (t := t) b1
  have g2 := gc_le (t := t) b1
  have g3 := gc_le' (b := b) t1
  obtain ⟨gb, gt⟩ := gc_dvd (t := t) (b := b) (by omega) (by omega)
  generalize GC t b = g at *
  have hf : FlOk t b s := ⟨t1, t2, b1, b2', s1, by omega⟩
  have hf0 : FlOk t b 0 := ⟨t1, t2, b1, b2', by omega, by omega⟩
  have sb0 : 0 ≤ s % b := Int.emod_nonneg _ (by omega)
  have sb1 : s % b < b := Int.emod_lt_of_pos _ (by omega)
  have hfp : FlOk t b (s % b) := ⟨t1, t2, b1, b2', sb0, by omega⟩
  have bg1 : 1 ≤ b / g := by rw [Int.le_ediv_iff_mul_le (by omega)]; omega
  have bg2 : b / g ≤ b := Int.ediv_le_self _ (by omega)
  have tg1 : 1 ≤ t / g := by rw [Int.le_ediv_iff_mul_le (by omega)]; omega
  have tg2 : t / g ≤ t := Int.ediv_le_self _ (by omega)
  have Nt0 : 0 ≤ N * t := Int.mul_nonneg N0 (by omega)
  have Nt1 : N * t ≤ N * 40 := Int.mul_le_mul_of_nonneg_left t2 N0
  have here0 : 0 ≤ (N * t + s) / b := Int.ediv_nonneg (by omega) (by omega)
  have here1 : (N * t + s) / b ≤ N * t + s := Int.ediv_le_self _ (by omega)
  have a1 := v_floor_at hf (n := N) (by omega)
  have a2 := v_floor_at hf (n := N + b / g) (by omega)
  have a2e : ((N + b / g) * t + s) / b = (N * t + s) / b + t / g := by
    have e1 : b / g * t = b * (t / g) := by
      obtain ⟨x, rfl⟩ := gb
      obtain ⟨y, rfl⟩ := gt
      rw [Int.mul_ediv_cancel_left _ (by omega), Int.mul_ediv_cancel_left _ (by omega), Int.mul_left_comm, Int.mul_assoc]
    have e2 : (N + b / g) * t + s = N * t + s + b * (t / g) := by rw [Int.add_mul, e1]; omega
    rw [e2, Int.add_mul_ediv_left _ _ (by omega)]
  rw [a2e] at a2
  have a3 := v_floor_has hf (n := (N * t + s) / b) (by omega)
  rw [has_true t1 b1 b2' s1 N0] at a3
  have a4 := v_floor_at hf (n := N + 1) (by omega)
  have a5 := v_floor_has hf (n := (N * t + s) / b + 1) (by omega)
  have hfal := fun z => has_false (t := t) (b := b) (s := s) (N := N) t1 b1 z
  have is_a := is3 (x := (N * t + s) / b) (y := (N * t + s) / b + t / g) (c := true) (tiny_of (by omega) (by omega)) (tiny_of (by omega) (by omega))
  generalize hhe : (N * t + s) / b = here at *
  generalize hla : ((N + 1) * t + s) / b = later at *
  have st := v_steps_of hf kc g1 g2
  have sl := steps_len t b s (b / g).toNat
  have e0 : (((b / g).toNat : Nat) : Int) = b / g := Int.toNat_of_nonneg (by omega)
  rw [e0] at sl
  have ss := steps_sum (s := s) b1 g1 gb gt (by omega)
  have is_b := is2 (x := b / g) (y := t / g) (tiny_of (by omega) (by omega)) (tiny_of (by omega) (by omega))
  have cA := fun (e : En) h1 h2 hu => sh_L (e := e) (t := t) (b := b) (by omega) (by omega) h1 h2 hu
  have cB := fun (e : En) h1 h2 hu => wh_L (e := e) (N := N) hf0 (by omega) h1 h2 hu
  have cC := fun (e : En) h1 h2 hu => sm_L (e := e) (m := m) hf0 m0 m1 h1 h2 hu
  unfold shL at cA
  unfold whL at cB
  unfold smL at cC
  have sB := wh_sum (N := N) (t := t) (b := b) N0 (by omega) b1
  have sC := sm_sum (m := m) (t := t) (b := b) m0 (by omega) b1
  have mm0 : 0 ≤ m * (m - 1) / 2 := by
    rcases Int.lt_or_le m 1 with z | z
    · have : m = 0 := by omega
      subst this
      decide
    · exact Int.ediv_nonneg (Int.mul_nonneg m0 (by omega)) (by omega)
  have mm1 : m * (m - 1) / 2 ≤ 1000000000 * 1000000000 := by
    have z1 : m * (m - 1) ≤ m * 1000000000 := Int.mul_le_mul_of_nonneg_left (by omega) m0
    omega
  have mt0 : 0 ≤ t * (m * (m - 1) / 2) := Int.mul_nonneg (by omega) mm0
  have mt1 : t * (m * (m - 1) / 2) ≤ 40 * (m * (m - 1) / 2) := Int.mul_le_mul_of_nonneg_right t2 mm0
  have is_c := is2 (x := N * t) (y := t * (m * (m - 1) / 2)) (tiny_of (by omega) (by omega)) (tiny_of (by omega) (by omega))
  have f1 := v_fs m0 m1 hf
  have f2 := v_fs m0 m1 hfp
  have f3 := v_fs m0 m1 hf0
  have f4 := v_fb (l := m) (u := t) (d := b) m0 m1 (by omega) (by omega) b1 (by omega)
  have fsh := FS_shift (m := m) (t := t) (b := b) (s := s) m0 (by omega) b1 s1
  rw [FS_zero] at f3
  have is_d := is1 (BS_tiny (l := m) (u := t) (d := b) m1 (by omega))
  have q1 : ∀ x : Int, mulA (.int x) (.int t) = some (.int (x * t)) := fun x => mul_i (by simp [sm_of (j := t) (by omega) (by omega)])
  have q2 : ∀ x : Int, fdivD (.int x) (.int 2) = some (.int (x / 2)) := fun x => fdiv_i (by omega)
  have q6 : ∀ x : Int, fdivD (.int x) (.int b) = some (.int (x / b)) := fun x => fdiv_i (by omega)
  have q7 : ∀ x : Int, fdivD (.int x) (.int g) = some (.int (x / g)) := fun x => fdiv_i (by omega)
  have q8 : ∀ x : Int, mulA (.int t) (.int x) = some (.int (t * x)) := fun x => mul_i (by simp [sm_of (j := t) (by omega) (by omega)])
  have q9 : ∀ x : Int, mulA (.int m) (.int x) = some (.int (m * x)) := fun x => mul_i (by simp [sm_of (j := m) (by omega) (by omega)])
  have q10 : ∀ x : Int, modD (.int x) (.int b) = some (.int (x % b)) := fun x => mod_i (by omega)
  have neq : (!(FS m t b s == FS m t b (s % b) + m * (s / b))) = false := by simp [← fsh]
  have fold : ∀ c : Int, PyData.tuple [.int t, .int b, .int c] = FlD t b c := fun _ => rfl
  refine ⟨h9, ?_, ok9⟩
  rw [runI_d]
  unfold m__law_are_floors_right
  simp only [envP, List.map_nil, List.nil_append, List.replicate, Nat.reduceSub, List.length_nil, ap_seqS, ap_ifS, ap_tNo, ap_tAn, ap_tOr, ap_tv, ap_vAn, ap_vNo, ap_cl, ap_clI, ap_cb, ap_aCons, ap_aNil, ap_nm, gv_s, gv_0, go_0, Option.map_some, Option.bind_some, ap_rt, ap_bd, ap_lf, ap_fr, ap_b2, ap_u1, List.length_cons, List.length_nil, Nat.zero_add, Nat.reduceAdd, if_true, ap_asB, Bool.not_true, Bool.not_false, Bool.false_eq_true, if_false, ap_nxS, oc_nx, oc_rt, ap_drp, ap_asgS, ap_retS, ap_parS, ap_mV, ap_mNil, setAll_cons, setAll_nil, List.set_cons_succ, List.set_cons_zero, add_i, sub_i, lt_i, le_i, gt_i, ge_i, ne_i, eq_i, int_i, min2_i, max2_i, short2, short3, short4, ap_tupS, outI_rt, outP_rt, k1, et, k2, eb, kg, k3, pow9, k4, k5, k6, k7, pow30, pow6, k8, k9, q1, q6, hhe, fold, a1, q7, a2, a3, is_a, a4, hla, Option.map_some]
  by_cases c : here + 1 < later
  · have c' : decide (here + 1 < later) = true := by simpa using c
    rw [hfal c] at a5
    simp only [ap_seqS, ap_ifS, ap_tNo, ap_tAn, ap_tOr, ap_tv, ap_vAn, ap_vNo, ap_cl, ap_clI, ap_cb, ap_aCons, ap_aNil, ap_nm, gv_s, gv_0, go_0, Option.map_some, Option.bind_some, ap_rt, ap_bd, ap_lf, ap_fr, ap_b2, ap_u1, List.length_cons, List.length_nil, Nat.zero_add, Nat.reduceAdd, if_true, ap_asB, Bool.not_true, Bool.not_false, Bool.false_eq_true, if_false, ap_nxS, oc_nx, oc_rt, ap_drp, ap_asgS, ap_retS, ap_parS, ap_mV, ap_mNil, setAll_cons, setAll_nil, List.set_cons_succ, List.set_cons_zero, add_i, sub_i, lt_i, le_i, gt_i, ge_i, ne_i, eq_i, int_i, min2_i, max2_i, short2, short3, short4, ap_tupS, outI_rt, outP_rt, c', a5, isNot_b, beq_self_eq_true, st, sl, ss, q7, is_b, cA, cB, cC, List.getElem?_cons_succ, List.getElem?_cons_zero, sB, sC, q1, q2, q8, q9, is_c, q10, fold, f1, f2, f3, f4, q6, neq, is_d, Option.map_some]
  · have c' : decide (here + 1 < later) = false := by simpa using c
    simp only [ap_seqS, ap_ifS, ap_tNo, ap_tAn, ap_tOr, ap_tv, ap_vAn, ap_vNo, ap_cl, ap_clI, ap_cb, ap_aCons, ap_aNil, ap_nm, gv_s, gv_0, go_0, Option.map_some, Option.bind_some, ap_rt, ap_bd, ap_lf, ap_fr, ap_b2, ap_u1, List.length_cons, List.length_nil, Nat.zero_add, Nat.reduceAdd, if_true, ap_asB, Bool.not_true, Bool.not_false, Bool.false_eq_true, if_false, ap_nxS, oc_nx, oc_rt, ap_drp, ap_asgS, ap_retS, ap_parS, ap_mV, ap_mNil, setAll_cons, setAll_nil, List.set_cons_succ, List.set_cons_zero, add_i, sub_i, lt_i, le_i, gt_i, ge_i, ne_i, eq_i, int_i, min2_i, max2_i, short2, short3, short4, ap_tupS, outI_rt, outP_rt, c', st, sl, ss, q7, is_b, cA, cB, cC, List.getElem?_cons_succ, List.getElem?_cons_zero, sB, sC, q1, q2, q8, q9, is_c, q10, fold, f1, f2, f3, f4, q6, neq, is_d, Option.map_some]
end Lw

namespace Lw
open PySem PySem.Spec PyProof.Rows L2 DL
/-! texts of two signs -/
def TX (m : Nat) (b : Nat → Nat) : Str := ⟨((List.range m).map fun i => 48 + b i).toArray⟩
theorem TX_list (m : Nat) (b : Nat → Nat) : (TX m b).cps.toList = (List.range m).map fun i => 48 + b i := rfl
theorem TX_len (m : Nat) (b : Nat → Nat) : (TX m b).length = m := by
  show (((List.range m).map fun i => 48 + b i).toArray).size = m
  simp
theorem str_ext {a b : Str} (h : a.cps.toList = b.cps.toList) : a = b := by
  cases a; cases b
  congr
  exact Array.ext' h
theorem TX_congr {m : Nat} {a b : Nat → Nat} (h : ∀ i, i < m → a i = b i) : TX m a = TX m b := by
  apply str_ext
  rw [TX_list, TX_list]
  exact List.map_congr_left fun i hi => by rw [h i (List.mem_range.mp hi)]
theorem app_list (a b : Str) : (a ++ b).cps.toList = a.cps.toList ++ b.cps.toList := by
  show (a.cps ++ b.cps).toList = _
  simp
theorem join_e : ∀ ys : List Str, (Str.join "" ys).cps.toList = (ys.map fun y => y.cps.toList).flatten
  | [] => rfl
  | [x] => by simp [Str.join]
  | x :: y :: r => by
    show (x ++ "" ++ Str.join "" (y :: r)).cps.toList = _
    rw [app_list, app_list, join_e (y :: r)]
    show x.cps.toList ++ [] ++ _ = _
    simp
def one (c : Nat) : Str := ⟨#[c]⟩
theorem join_TX (m : Nat) (b : Nat → Nat) : Txt.join "" ((List.range m).map fun i => one (48 + b i)) = TX m b := by
  apply str_ext
  have hj : ∀ ys, Txt.join "" ys = Str.join "" ys := fun ys => StrLaws.glued_eq_join "" ys
  rw [hj, join_e, TX_list, List.map_map]
  generalize List.range m = l
  induction l with
  | nil => rfl
  | cons a r ih =>
    rw [List.map_cons, List.flatten_cons, ih, List.map_cons]
    rfl
theorem len_ones (m : Nat) (b : Nat → Nat) : ((((List.range m).map fun i => one (48 + b i)).map (·.length)).sum) = m := by
  have : ∀ l : List Nat, (((l.map fun i => one (48 + b i)).map (·.length)).sum) = l.length := by
    intro l
    induction l with
    | nil => rfl
    | cons a r ih =>
      rw [List.map_cons, List.map_cons, List.sum_cons, ih]
      show 1 + r.length = r.length + 1
      omega
  rw [this, List.length_range]
theorem joinD_TX {m : Nat} (b : Nat → Nat) (hm : m ≤ 1000) : joinD (.str "") (.list (((List.range m).map fun i => one (48 + b i)).map .str)) = some (.str (TX m b)) := by
  show (strsOf (((List.range m).map fun i => one (48 + b i)).map PyData.str)).bind (fun ys => if (ys.map (·.length)).sum + ys.length * ("" : Str).length ≤ 1000000 then some (PyData.str (Txt.join "" ys)) else none) = _
  rw [strsOf_map]
  show (if _ then _ else _) = _
  rw [len_ones, join_TX, if_pos]
  show m + _ * 0 ≤ _
  omega
/-! counting -/
theorem cnt_S (b : Nat → Nat) (hb : ∀ i, b i ≤ 1) : ∀ m, PyProof.Rows.cnt 49 ((List.range m).map fun i => 48 + b i) = (M8.S m b : Nat)
  | 0 => rfl
  | m + 1 => by
    rw [List.range_succ, List.map_append, cnt_append, cnt_S b hb m]
    show _ + PyProof.Rows.cnt 49 [48 + b m] = ((M8.S m b + b m : Nat) : Int)
    rw [cnt_cons, cnt_nil]
    have := hb m
    split <;> omega
theorem count_1 (z : Str) : Txt.count z "1" = PyProof.Rows.cnt 49 z.cps.toList := count_cnt z 49
theorem TX_count (m : Nat) (b : Nat → Nat) (hb : ∀ i, b i ≤ 1) : Txt.count (TX m b) "1" = (M8.S m b : Nat) := by
  rw [count_1, TX_list, cnt_S b hb]
/-! slices -/
theorem cut_list (z : Str) (lo hi : Option Int) : (cutS z lo hi).cps.toList = (z.cps.toList.drop (HT.sIx z.length 0 lo)).take (HT.sIx z.length z.length hi - HT.sIx z.length 0 lo) := rfl
theorem sIx_mid {n d k : Nat} (h : k ≤ n) : HT.sIx n d (some (k : Int)) = k := by rw [HT.sIx_nat]; omega
theorem cut_mid (z : Str) {p s : Nat} (h : p + s ≤ z.length) : (cutS z (some (p : Int)) (some ((p + s : Nat) : Int))).cps.toList = (z.cps.toList.drop p).take s := by
  rw [cut_list, sIx_mid (by omega), sIx_mid (by omega)]
  congr 1
  omega
theorem range_drop (m p : Nat) : (List.range m).drop p = (List.range (m - p)).map (p + ·) := by
  rw [List.range_eq_range', List.drop_range', List.range_eq_range', List.map_add_range']
  simp
theorem TX_cut (m : Nat) (b : Nat → Nat) {p s : Nat} (h : p + s ≤ m) : ((TX m b).cps.toList.drop p).take s = (List.range s).map fun i => 48 + b (p + i) := by
  rw [TX_list, ← List.map_drop, range_drop, ← List.map_take, ← List.map_take, List.map_map]
  have : List.take s (List.range (m - p)) = List.range s := by
    rw [List.take_range]
    congr 1
    omega
  rw [this]
  rfl
theorem TX_window (m : Nat) (b : Nat → Nat) (hb : ∀ i, b i ≤ 1) {p s : Nat} (h : p + s ≤ m) : Txt.count (cutS (TX m b) (some (p : Int)) (some ((p + s : Nat) : Int))) "1" = (M8.S s (fun i => b (p + i)) : Nat) := by
  rw [count_1, cut_mid _ (by rw [TX_len]; exact h), TX_cut m b h]
  exact cnt_S (fun i => b (p + i)) (fun i => hb _) s
end Lw

namespace Lw
open PySem PySem.Spec PyProof.Rows L2 DL
theorem lenS {z : Str} {n : Int} (h : (z.length : Int) = n) (hn : n ≤ 1000000) : lenD [.str z] = some (.int n) := by
  show (if z.length ≤ 1000000 then some (PyData.int z.length) else none) = _
  rw [if_pos (by omega), h]
theorem slS_d {z : Str} (h : z.length ≤ 1000000) (lo hi : Option Int) : slD (.str z) lo hi = some (.str (cutS z lo hi)) := by
  show (if z.length ≤ 1000000 then some (PyData.str (cutS z lo hi)) else none) = _
  rw [if_pos h]
theorem cnt_d (a b : Str) : countD (.str a) (.str b) = some (.int (Txt.count a b)) := rfl
/-! counts_of -/
def cntD (z : Str) (s : Int) : D → D
  | .int p => .int (Txt.count (cutS z (some p) (some (p + s))) "1")
  | d => d
def coF : ME D := b2 countD (slS (nm 0) (oSo (nm 2)) (oSo (b2 addA (nm 2) (nm 1)))) (rt (.str "1"))
theorem co_eq : m_counts_of = retS (fr (lcS (rngI rng1D (aCons (b2 addA (b2 subD (cb lenD (aCons (nm 0) (aNil))) (nm 1)) (rt (.int 1))) (aNil))) (gNm 2) (rt true) coF [2])) := rfl
theorem v_counts_of {z : Str} {n s : Int} (hz : (z.length : Int) = n) (n1 : n ≤ 1000) (s1 : 1 ≤ s) (s2 : s ≤ n) : runP 3 m_counts_of [.str z, .int s] = some (.list ((DL.upTo 0 (n - s + 1).toNat).map (cntD z s))) := by
  have hl := lenS hz (by omega)
  have hi : rngI rng1D (aCons (b2 addA (b2 subD (cb lenD (aCons (nm 0) (aNil))) (nm 1)) (rt (.int 1))) (aNil)) [.v (.str z), .v (.int s), .u] = some (DL.upTo 0 (n - s + 1).toNat, [.v (.str z), .v (.int s), .u]) := by
    have : rng1D [.int (n - s + 1)] = some (DL.upTo 0 (n - s + 1).toNat) := if_pos (by omega)
    simp only [ap_rngI, ap_seqS, ap_ifS, ap_tNo, ap_tAn, ap_tOr, ap_tv, ap_vAn, ap_vNo, ap_cl, ap_clI, ap_cb, ap_aCons, ap_aNil, ap_nm, gv_s, gv_0, go_0, Option.map_some, Option.bind_some, ap_rt, ap_bd, ap_lf, ap_fr, ap_b2, ap_u1, List.length_cons, List.length_nil, Nat.zero_add, Nat.reduceAdd, if_true, ap_asB, Bool.not_true, Bool.not_false, Bool.false_eq_true, if_false, ap_nxS, oc_nx, oc_rt, ap_drp, ap_asgS, ap_retS, ap_parS, ap_mV, ap_mNil, setAll_cons, setAll_nil, List.set_cons_succ, List.set_cons_zero, add_i, sub_i, lt_i, le_i, gt_i, ge_i, ne_i, eq_i, int_i, min2_i, max2_i, short2, short3, short4, ap_tupS, outI_rt, outP_rt, hl, this]
  have hc := lc_map (k := 2) (f := coF) (y := cntD z s) hi rfl (by rw [len_upTo]; omega) (fun d hd => by
    obtain ⟨p, rfl, _⟩ := mem_upTo hd
    unfold coF
    simp only [ap_slS, ap_oSo, ap_asI, ap_seqS, ap_ifS, ap_tNo, ap_tAn, ap_tOr, ap_tv, ap_vAn, ap_vNo, ap_cl, ap_clI, ap_cb, ap_aCons, ap_aNil, ap_nm, gv_s, gv_0, go_0, Option.map_some, Option.bind_some, ap_rt, ap_bd, ap_lf, ap_fr, ap_b2, ap_u1, List.length_cons, List.length_nil, Nat.zero_add, Nat.reduceAdd, if_true, ap_asB, Bool.not_true, Bool.not_false, Bool.false_eq_true, if_false, ap_nxS, oc_nx, oc_rt, ap_drp, ap_asgS, ap_retS, ap_parS, ap_mV, ap_mNil, setAll_cons, setAll_nil, List.set_cons_succ, List.set_cons_zero, add_i, sub_i, lt_i, le_i, gt_i, ge_i, ne_i, eq_i, int_i, min2_i, max2_i, short2, short3, short4, ap_tupS, outI_rt, outP_rt, slS_d (show z.length ≤ 1000000 by omega), cnt_d]
    rfl)
  rw [runP_d, co_eq, ap_retS, ap_fr]
  have e : envP 3 [.str z, .int s] = [.v (.str z), .v (.int s), .u] := rfl
  rw [e, hc]
  rfl
/-! is_even -/
def rowD (z : Str) (n : Int) : D → D
  | .int s => .list ((DL.upTo 0 (n - s + 1).toNat).map (cntD z s))
  | d => d
def mmD : D → D
  | .list ds => match intsOf ds with
    | some ns => .bool (decide (maxI ns - minI ns ≤ 1))
    | none => .none
  | d => d
theorem mm_i (ns : List Int) : mmD (.list (ns.map .int)) = .bool (decide (maxI ns - minI ns ≤ 1)) := by
  show (match intsOf (ns.map PyData.int) with
    | some ns => PyData.bool (decide (maxI ns - minI ns ≤ 1))
    | none => .none) = _
  rw [intsOf_map]
def rowI (z : Str) (s : Int) (k : Nat) : List Int := (List.range k).map fun (p : Nat) => Txt.count (cutS z (some (p : Int)) (some ((p : Int) + s))) "1"
theorem row_i (z : Str) (s : Int) (k : Nat) : (DL.upTo 0 k).map (cntD z s) = (rowI z s k).map .int := by
  unfold DL.upTo rowI
  rw [List.map_map, List.map_map]
  refine List.map_congr_left fun i _ => ?_
  show PyData.int (Txt.count (cutS z (some (0 + (i : Int))) (some (0 + (i : Int) + s))) "1") = _
  rw [Int.zero_add]
  rfl
def inF : ME D := b2 inD (nm 2) (rt (.str "01"))
def in01 : D → D
  | .str z => match z.cps.toList with
    | [c] => .bool (decide (c ∈ ("01" : Str).cps.toList))
    | _ => .none
  | d => d
def isG : ME Bool := tOr' (tNo (tv (u1 (isiD isStr) (nm 0)))) (tOr' (tNo (tv (ch leD leD (rt (.int 1)) (cb lenD (aCons (nm 0) (aNil))) (rt (.int 60))))) (tNo (tv (cb allD (aCons (fr (lcS (seqI (nm 0)) (gNm 2) (rt true) inF [2])) (aNil))))))
def rwF : ME D := cl 2 (runP 3 m_counts_of) (aCons (nm 0) (aCons (nm 3) (aNil)))
def mmF : ME D := b2 leD (b2 subD (cb maxD (aCons (nm 4) (aNil))) (cb minD (aCons (nm 4) (aNil)))) (rt (.int 1))
theorem is_eq : m_is_even = seqS (ifS isG (retS (rt (.bool false))) (nxS))
    (seqS (asgS 1 (fr (lcS (rngI rng2D (aCons (rt (.int 1)) (aCons (b2 addA (cb lenD (aCons (nm 0) (aNil))) (rt (.int 1))) (aNil)))) (gNm 3) (rt true) rwF [3])))
    (retS (cb allD (aCons (fr (lcS (seqI (nm 1)) (gNm 4) (rt true) mmF [4])) (aNil))))) := rfl
def eS (z : Str) : En := [.v (.str z), .u, .u, .u, .u]
theorem in_L {z : Str} (h : z.length ≤ 1000) : lcS (seqI (nm 0)) (gNm 2) (rt true) inF [2] (eS z) = some ((z.cps.toList.map fun c => PyData.bool (decide (c ∈ ("01" : Str).cps.toList))), eS z) := by
  have hi : seqI (nm 0) (eS z) = some (z.cps.toList.map fun c => PyData.str ⟨#[c]⟩, eS z) := rfl
  have hl : (z.cps.toList.map fun c => PyData.str ⟨#[c]⟩).length ≤ 100000 := by
    rw [List.length_map, Array.length_toList]
    exact Nat.le_trans h (by omega)
  have := lc_map (k := 2) (f := inF) (y := in01) hi rfl hl (fun d hd => by
    obtain ⟨c, _, rfl⟩ := List.mem_map.mp hd
    unfold inF
    have e : inD (.str ⟨#[c]⟩) (.str "01") = some (.bool (decide (c ∈ ("01" : Str).cps.toList))) := rfl
    unfold eS
    simp only [ap_seqS, ap_ifS, ap_tNo, ap_tAn, ap_tOr, ap_tv, ap_vAn, ap_vNo, ap_cl, ap_clI, ap_cb, ap_aCons, ap_aNil, ap_nm, gv_s, gv_0, go_0, Option.map_some, Option.bind_some, ap_rt, ap_bd, ap_lf, ap_fr, ap_b2, ap_u1, List.length_cons, List.length_nil, Nat.zero_add, Nat.reduceAdd, if_true, ap_asB, Bool.not_true, Bool.not_false, Bool.false_eq_true, if_false, ap_nxS, oc_nx, oc_rt, ap_drp, ap_asgS, ap_retS, ap_parS, ap_mV, ap_mNil, setAll_cons, setAll_nil, List.set_cons_succ, List.set_cons_zero, add_i, sub_i, lt_i, le_i, gt_i, ge_i, ne_i, eq_i, int_i, min2_i, max2_i, short2, short3, short4, ap_tupS, outI_rt, outP_rt, e]
    rfl)
  rw [this, List.map_map]
  rfl
theorem all_b (bs : List Bool) : allD [.list (bs.map .bool)] = some (.bool (bs.all id)) := by
  show (bsOf (bs.map PyData.bool)).map (fun ns => PyData.bool (ns.all id)) = _
  rw [bsOf_map]
  rfl
/-- the gate, for a text of fitting length -/
theorem gate {z : Str} {n : Int} (hz : (z.length : Int) = n) (n0 : 1 ≤ n) (n1 : n ≤ 60) : isG (eS z) = some (!(z.cps.toList.all fun c => decide (c ∈ ("01" : Str).cps.toList)), eS z) := by
  have hl := lenS hz (by omega)
  have h1 : decide (1 ≤ n) = true := by simpa using n0
  have h2 : decide (n ≤ 60) = true := by simpa using n1
  have hL := in_L (z := z) (by omega)
  have ha : allD [.list (z.cps.toList.map fun c => PyData.bool (decide (c ∈ ("01" : Str).cps.toList)))] = some (.bool (z.cps.toList.all fun c => decide (c ∈ ("01" : Str).cps.toList))) := by
    have := all_b (z.cps.toList.map fun c => decide (c ∈ ("01" : Str).cps.toList))
    rw [List.map_map] at this
    rw [List.all_map] at this
    exact this
  unfold isG
  have g0 : nm 0 (eS z) = some (.str z, eS z) := rfl
  simp only [ap_tOr, ap_tNo, ap_tv, ap_u1, isi_ap, isStr_s, g0, Option.map_some, Option.bind_some, ap_asB, Bool.not_true, Bool.false_eq_true, if_false, ap_ch, ap_rt, ap_cb, ap_aCons, ap_aNil, hl, le_i, h1, h2, if_true, ap_fr, hL, ha]
theorem gate_long {z : Str} {n : Int} (hz : (z.length : Int) = n) (n0 : ¬ (1 ≤ n ∧ n ≤ 60)) (n1 : n ≤ 1000) : isG (eS z) = some (true, eS z) := by
  have hl := lenS hz (by omega)
  unfold isG
  have g0 : nm 0 (eS z) = some (.str z, eS z) := rfl
  by_cases h : 1 ≤ n
  · have h1 : decide (1 ≤ n) = true := by simpa using h
    have h2 : decide (n ≤ 60) = false := by simp; omega
    simp only [ap_tOr, ap_tNo, ap_tv, ap_u1, isi_ap, isStr_s, g0, Option.map_some, Option.bind_some, ap_asB, Bool.not_true, Bool.not_false, Bool.false_eq_true, if_false, ap_ch, ap_rt, ap_cb, ap_aCons, ap_aNil, hl, le_i, h1, h2, if_true]
  · have h1 : decide (1 ≤ n) = false := by simpa using h
    simp only [ap_tOr, ap_tNo, ap_tv, ap_u1, isi_ap, isStr_s, g0, Option.map_some, Option.bind_some, ap_asB, Bool.not_true, Bool.not_false, Bool.false_eq_true, if_false, ap_ch, ap_rt, ap_cb, ap_aCons, ap_aNil, hl, le_i, h1, if_true]
theorem even_gated {z : Str} (h : isG (eS z) = some (true, eS z)) : runP 5 m_is_even [.str z] = some (.bool false) := by
  rw [runP_d, is_eq]
  have e : envP 5 [.str z] = eS z := rfl
  rw [e]
  simp only [ap_seqS, ap_ifS, h, Option.bind_some, if_true, ap_retS, ap_rt, Option.map_some, oc_rt, outP_rt]
theorem even_none : runP 5 m_is_even [.none] = some (.bool false) := by
  rw [runP_d, is_eq]
  unfold isG
  simp only [envP, List.map_cons, List.map_nil, List.cons_append, List.nil_append, List.replicate, ap_seqS, ap_ifS, ap_tNo, ap_tAn, ap_tOr, ap_tv, ap_vAn, ap_vNo, ap_cl, ap_clI, ap_cb, ap_aCons, ap_aNil, ap_nm, gv_s, gv_0, go_0, Option.map_some, Option.bind_some, ap_rt, ap_bd, ap_lf, ap_fr, ap_b2, ap_u1, List.length_cons, List.length_nil, Nat.zero_add, Nat.reduceAdd, if_true, ap_asB, Bool.not_true, Bool.not_false, Bool.false_eq_true, if_false, ap_nxS, oc_nx, oc_rt, ap_drp, ap_asgS, ap_retS, ap_parS, ap_mV, ap_mNil, setAll_cons, setAll_nil, List.set_cons_succ, List.set_cons_zero, add_i, sub_i, lt_i, le_i, gt_i, ge_i, ne_i, eq_i, int_i, min2_i, max2_i, short2, short3, short4, ap_tupS, outI_rt, outP_rt, isi_ap, isStr_n]
theorem maxD_i (ns : List Int) (h : ns ≠ []) : maxD [.list (ns.map .int)] = some (.int (maxI ns)) := by
  show (intsOf (ns.map PyData.int)).bind (fun ns => if ns = [] then none else some (PyData.int (maxI ns))) = _
  rw [intsOf_map]
  exact if_neg h
theorem minD_i (ns : List Int) (h : ns ≠ []) : minD [.list (ns.map .int)] = some (.int (minI ns)) := by
  show (intsOf (ns.map PyData.int)).bind (fun ns => if ns = [] then none else some (PyData.int (minI ns))) = _
  rw [intsOf_map]
  exact if_neg h
theorem rowI_ne (z : Str) (s : Int) {k : Nat} (h : 0 < k) : rowI z s k ≠ [] := fun e => by
  have : (rowI z s k).length = 0 := by rw [e]; rfl
  unfold rowI at this
  rw [List.length_map, List.length_range] at this
  omega
theorem even_open {z : Str} {n : Int} (hz : (z.length : Int) = n) (n0 : 1 ≤ n) (n1 : n ≤ 60) (h : isG (eS z) = some (false, eS z)) :
    runP 5 m_is_even [.str z] = some (.bool (((DL.upTo 1 n.toNat).map fun d => match d with
      | .int s => decide (maxI (rowI z s (n - s + 1).toNat) - minI (rowI z s (n - s + 1).toNat) ≤ 1)
      | _ => false).all id)) := by
  have hl := lenS hz (by omega)
  have hi : rngI rng2D (aCons (rt (.int 1)) (aCons (b2 addA (cb lenD (aCons (nm 0) (aNil))) (rt (.int 1))) (aNil))) (eS z) = some (DL.upTo 1 n.toNat, eS z) := by
    have e : (n + 1 - 1).toNat = n.toNat := by congr 1; omega
    have : rng2D [.int 1, .int (n + 1)] = some (DL.upTo 1 (n + 1 - 1).toNat) := if_pos (by omega)
    rw [e] at this
    have g0 : nm 0 (eS z) = some (.str z, eS z) := rfl
    simp only [ap_rngI, ap_aCons, ap_rt, ap_b2, ap_cb, g0, ap_aNil, Option.map_some, Option.bind_some, hl, add_i, this]
  have h1 := lc_map (k := 3) (f := rwF) (y := rowD z n) hi rfl (by rw [len_upTo]; omega) (fun d hd => by
    obtain ⟨s, rfl, s1, s2⟩ := mem_upTo hd
    have hv := v_counts_of (z := z) (s := s) hz (by omega) s1 (by omega)
    unfold rwF eS
    simp only [ap_seqS, ap_ifS, ap_tNo, ap_tAn, ap_tOr, ap_tv, ap_vAn, ap_vNo, ap_cl, ap_clI, ap_cb, ap_aCons, ap_aNil, ap_nm, gv_s, gv_0, go_0, Option.map_some, Option.bind_some, ap_rt, ap_bd, ap_lf, ap_fr, ap_b2, ap_u1, List.length_cons, List.length_nil, Nat.zero_add, Nat.reduceAdd, if_true, ap_asB, Bool.not_true, Bool.not_false, Bool.false_eq_true, if_false, ap_nxS, oc_nx, oc_rt, ap_drp, ap_asgS, ap_retS, ap_parS, ap_mV, ap_mNil, setAll_cons, setAll_nil, List.set_cons_succ, List.set_cons_zero, add_i, sub_i, lt_i, le_i, gt_i, ge_i, ne_i, eq_i, int_i, min2_i, max2_i, short2, short3, short4, ap_tupS, outI_rt, outP_rt, hv]
    rfl)
  have hi2 : seqI (nm 1) [.v (.str z), .v (.list ((DL.upTo 1 n.toNat).map (rowD z n))), .u, .u, .u] = some ((DL.upTo 1 n.toNat).map (rowD z n), [.v (.str z), .v (.list ((DL.upTo 1 n.toNat).map (rowD z n))), .u, .u, .u]) := rfl
  have h2 := lc_map (k := 4) (f := mmF) (y := mmD) hi2 rfl (by rw [List.length_map, len_upTo]; omega) (fun d hd => by
    obtain ⟨d', hd', rfl⟩ := List.mem_map.mp hd
    obtain ⟨s, rfl, s1, s2⟩ := mem_upTo hd'
    have hne := rowI_ne z s (k := (n - s + 1).toNat) (by omega)
    have e : rowD z n (.int s) = .list ((rowI z s (n - s + 1).toNat).map .int) := by
      show PyData.list _ = _
      rw [row_i]
    rw [e, mm_i]
    unfold mmF
    simp only [ap_seqS, ap_ifS, ap_tNo, ap_tAn, ap_tOr, ap_tv, ap_vAn, ap_vNo, ap_cl, ap_clI, ap_cb, ap_aCons, ap_aNil, ap_nm, gv_s, gv_0, go_0, Option.map_some, Option.bind_some, ap_rt, ap_bd, ap_lf, ap_fr, ap_b2, ap_u1, List.length_cons, List.length_nil, Nat.zero_add, Nat.reduceAdd, if_true, ap_asB, Bool.not_true, Bool.not_false, Bool.false_eq_true, if_false, ap_nxS, oc_nx, oc_rt, ap_drp, ap_asgS, ap_retS, ap_parS, ap_mV, ap_mNil, setAll_cons, setAll_nil, List.set_cons_succ, List.set_cons_zero, add_i, sub_i, lt_i, le_i, gt_i, ge_i, ne_i, eq_i, int_i, min2_i, max2_i, short2, short3, short4, ap_tupS, outI_rt, outP_rt, maxD_i _ hne, minD_i _ hne])
  have e3 : ((DL.upTo 1 n.toNat).map (rowD z n)).map mmD = ((DL.upTo 1 n.toNat).map fun d => match d with
      | .int s => decide (maxI (rowI z s (n - s + 1).toNat) - minI (rowI z s (n - s + 1).toNat) ≤ 1)
      | _ => false).map PyData.bool := by
    rw [List.map_map, List.map_map]
    refine List.map_congr_left fun d hd => ?_
    obtain ⟨s, rfl, s1, s2⟩ := mem_upTo hd
    show mmD (rowD z n (.int s)) = PyData.bool (decide _)
    have e : rowD z n (.int s) = .list ((rowI z s (n - s + 1).toNat).map .int) := by
      show PyData.list _ = _
      rw [row_i]
    rw [e, mm_i]
  rw [e3] at h2
  rw [runP_d, is_eq]
  have e : envP 5 [.str z] = eS z := rfl
  have g1 : (eS z).set 1 (.v (.list ((DL.upTo 1 n.toNat).map (rowD z n)))) = [.v (.str z), .v (.list ((DL.upTo 1 n.toNat).map (rowD z n))), .u, .u, .u] := rfl
  rw [e]
  simp only [ap_seqS, ap_ifS, h, Option.bind_some, Bool.false_eq_true, if_false, ap_nxS, oc_nx, ap_asgS, ap_fr, h1, Option.map_some, g1, ap_retS, ap_cb, ap_aCons, ap_aNil, h2, all_b, outP_rt]
end Lw

namespace Lw
open PySem PySem.Spec PyProof.Rows L2 DL
/-! the stairs -/
def fl (m o x : Nat) : Nat := x * o / m
def w0 (m o i : Nat) : Nat := fl m o (i + 1) - fl m o i
theorem fl_mono (m o : Nat) {x y : Nat} (h : x ≤ y) : fl m o x ≤ fl m o y := Nat.div_le_div_right (Nat.mul_le_mul_right o h)
theorem fl_win {m : Nat} (hm : 0 < m) (o x s : Nat) : fl m o x + fl m o s ≤ fl m o (x + s) ∧ fl m o (x + s) ≤ fl m o x + fl m o s + 1 := by
  unfold fl
  rw [Nat.add_mul]
  have a1 := Nat.div_add_mod (x * o) m
  have a2 := Nat.div_add_mod (s * o) m
  have l1 := Nat.mod_lt (x * o) hm
  have l2 := Nat.mod_lt (s * o) hm
  have e : x * o + s * o = m * (x * o / m + s * o / m) + (x * o % m + s * o % m) := by rw [Nat.mul_add]; omega
  rw [e, Nat.mul_add_div hm]
  have : (x * o % m + s * o % m) / m < 2 := by
    rw [Nat.div_lt_iff_lt_mul hm]; omega
  generalize (x * o % m + s * o % m) / m = r at *
  omega
theorem fl_step {m o : Nat} (hm : 0 < m) (ho : o ≤ m) (x : Nat) : fl m o (x + 1) ≤ fl m o x + 1 := by
  unfold fl
  have : (x + 1) * o ≤ x * o + m := by rw [Nat.add_mul]; omega
  have := Nat.div_le_div_right (c := m) this
  rwa [Nat.add_div_right _ hm] at this
theorem w0_le {m o : Nat} (hm : 0 < m) (ho : o ≤ m) (i : Nat) : w0 m o i ≤ 1 := by
  have := fl_step hm ho i
  unfold w0; omega
theorem fl_turn {m : Nat} (hm : 0 < m) (o x : Nat) : fl m o (x + m) = fl m o x + o := by
  unfold fl
  rw [Nat.add_mul, Nat.add_mul_div_left _ _ hm]
theorem tele_S (g : Nat → Nat) (h : ∀ i, g i ≤ g (i + 1)) : ∀ s, M8.S s (fun i => g (i + 1) - g i) + g 0 = g s
  | 0 => by show 0 + g 0 = g 0; omega
  | s + 1 => by
    show M8.S s _ + (g (s + 1) - g s) + g 0 = g (s + 1)
    have := tele_S g h s
    have := h s
    omega
theorem w_sum {m o : Nat} (hm : 0 < m) : M8.S m (w0 m o) = o := by
  have h := tele_S (fl m o) (fun i => fl_mono m o (by omega)) m
  have e : fl m o 0 = 0 := by unfold fl; rw [Nat.zero_mul, Nat.zero_div]
  have e2 : fl m o m = o := by unfold fl; exact Nat.mul_div_cancel_left o hm
  have e3 : M8.S m (w0 m o) = M8.S m (fun i => fl m o (i + 1) - fl m o i) := rfl
  omega
/-- the windows of a turned word -/
theorem win_turn {m : Nat} (hm : 0 < m) (o k p s : Nat) : fl m o s ≤ M8.S s (fun i => w0 m o (p + i + k)) ∧ M8.S s (fun i => w0 m o (p + i + k)) ≤ fl m o s + 1 := by
  have h := tele_S (fun i => fl m o (p + k + i)) (fun i => fl_mono m o (by omega)) s
  have e : M8.S s (fun i => w0 m o (p + i + k)) = M8.S s (fun i => fl m o (p + k + (i + 1)) - fl m o (p + k + i)) := M8.S_congr fun i _ => by
    unfold w0
    have e1 : p + i + k + 1 = p + k + (i + 1) := by omega
    have e2 : p + i + k = p + k + i := by omega
    rw [e1, e2]
  have h2 := fl_win hm o (p + k) s
  simp only [Nat.add_zero] at h
  omega
/-- the windows of the word, read backwards -/
theorem win_back {m : Nat} (hm : 0 < m) (o : Nat) {p s : Nat} (hp : p + s ≤ m) : fl m o s ≤ M8.S s (fun i => w0 m o (m - 1 - (p + i))) ∧ M8.S s (fun i => w0 m o (m - 1 - (p + i))) ≤ fl m o s + 1 := by
  have e : M8.S s (fun i => w0 m o (m - 1 - (p + i))) = M8.S s (fun i => w0 m o (m - p - s + i + 0)) := by
    rw [← M8.S_rev]
    refine M8.S_congr fun i hi => ?_
    congr 1
    omega
  rw [e]
  exact win_turn hm o 0 (m - p - s) s
/-- the other word -/
theorem fl_other {m o i : Nat} (hm : 0 < m) (ho : o ≤ m) (hi : i ≤ m) : fl m (m - o) i + o = i + fl m o (m - i) := by
  unfold fl
  have h1 : i * (m - o) + m * o = m * i + (m - i) * o := by
    obtain ⟨j, rfl⟩ : ∃ j, m = i + j := ⟨m - i, by omega⟩
    obtain ⟨k, hk⟩ : ∃ k, i + j = o + k := ⟨i + j - o, by omega⟩
    have e1 : i + j - o = k := by omega
    have e2 : i + j - i = j := by omega
    rw [e1, e2]
    have e3 : (i + j) * o = i * o + j * o := Nat.add_mul _ _ _
    have e4 : (i + j) * i = (o + k) * i := by rw [hk]
    rw [e3, e4, Nat.add_mul, Nat.mul_comm i k, Nat.mul_comm i o]
    omega
  have h2 : (i * (m - o) + m * o) / m = i * (m - o) / m + o := Nat.add_mul_div_left _ _ hm
  have h3 : (m * i + (m - i) * o) / m = i + (m - i) * o / m := Nat.mul_add_div hm _ _
  rw [h1] at h2
  exact h2.symm.trans h3
theorem w_other {m o i : Nat} (hm : 0 < m) (ho : o ≤ m) (hi : i < m) : w0 m (m - o) i = 1 - w0 m o (m - 1 - i) := by
  have h1 := fl_other hm ho (show i ≤ m by omega)
  have h2 := fl_other hm ho (show i + 1 ≤ m by omega)
  have h3 := fl_step hm ho (m - 1 - i)
  have h4 := fl_mono m o (show m - 1 - i ≤ m - 1 - i + 1 by omega)
  unfold w0
  have e1 : m - 1 - i + 1 = m - i := by omega
  have e2 : m - (i + 1) = m - 1 - i := by omega
  rw [e1] at h3 h4 ⊢
  rw [e2] at h2
  omega
theorem w_double {m o i : Nat} : w0 (2 * m) (2 * o) i = w0 m o i := by
  have e : ∀ x, fl (2 * m) (2 * o) x = fl m o x := fun x => by
    unfold fl
    rw [Nat.mul_left_comm, Nat.mul_div_mul_left _ _ (by decide)]
  unfold w0
  rw [e, e]
theorem w_turn {m : Nat} (hm : 0 < m) (o i : Nat) : w0 m o (i + m) = w0 m o i := by
  unfold w0
  have e1 : i + m + 1 = i + 1 + m := by omega
  rw [e1, fl_turn hm, fl_turn hm]
  omega
theorem TX_double {m : Nat} (hm : 0 < m) (o : Nat) : TX m (w0 m o) ++ TX m (w0 m o) = TX (2 * m) (w0 (2 * m) (2 * o)) := by
  apply str_ext
  rw [app_list, TX_list, TX_list, Nat.two_mul, List.range_add, List.map_append, List.map_map]
  congr 1
  · refine List.map_congr_left fun i _ => ?_
    rw [← Nat.two_mul, w_double]
  · refine List.map_congr_left fun i _ => ?_
    show _ = 48 + w0 (m + m) (2 * o) (m + i)
    rw [← Nat.two_mul, w_double, Nat.add_comm m i, w_turn hm]
theorem TX_turn {m : Nat} (hm : 0 < m) (o : Nat) {k : Nat} (hk : k < m) : cutS (TX m (w0 m o)) (some (k : Int)) none ++ cutS (TX m (w0 m o)) none (some (k : Int)) = TX m (fun i => w0 m o (i + k)) := by
  apply str_ext
  rw [app_list, cut_list, cut_list, TX_len, sIx_mid (by omega), sIx_mid (by omega), HT.sIx_none, HT.sIx_none, TX_list, TX_list, List.drop_zero, Nat.sub_zero, ← List.map_drop, ← List.map_take, ← List.map_take, range_drop, ← List.map_take, List.take_range, List.take_range, Nat.min_self, List.map_map, Nat.min_eq_left (by omega : k ≤ m)]
  have e : List.range m = List.range (m - k) ++ (List.range k).map (m - k + ·) := by
    rw [← List.range_add]
    congr 1
    omega
  rw [e, List.map_append, List.map_map]
  congr 1
  · refine List.map_congr_left fun i _ => ?_
    show 48 + w0 m o (k + i) = 48 + w0 m o (i + k)
    rw [Nat.add_comm k i]
  · refine List.map_congr_left fun i _ => ?_
    show 48 + w0 m o i = 48 + w0 m o (m - k + i + k)
    have : m - k + i + k = i + m := by omega
    rw [this, w_turn hm]
theorem TX_rev (m : Nat) (b : Nat → Nat) : (⟨(TX m b).cps.toList.reverse.toArray⟩ : Str) = TX m (fun i => b (m - 1 - i)) := by
  apply str_ext
  show (TX m b).cps.toList.reverse = _
  rw [TX_list, TX_list]
  apply List.ext_getElem
  · simp
  · intro i h1 h2
    simp
/-! even words -/
theorem all01 (m : Nat) (b : Nat → Nat) (hb : ∀ i, b i ≤ 1) : ((TX m b).cps.toList.all fun c => decide (c ∈ ("01" : Str).cps.toList)) = true := by
  have e : ("01" : Str).cps.toList = [48, 49] := by decide
  rw [TX_list, e, List.all_eq_true]
  intro c hc
  obtain ⟨i, _, rfl⟩ := List.mem_map.mp hc
  have := hb i
  rcases Nat.lt_or_ge 0 (b i) with z | z
  · have : b i = 1 := by omega
    rw [this]; rfl
  · have : b i = 0 := by omega
    rw [this]; rfl
theorem even_TX {m : Nat} (b q : Nat → Nat) (hb : ∀ i, b i ≤ 1) (m1 : 1 ≤ m) (m2 : (m : Int) ≤ 60) (h : ∀ s p, p + s ≤ m → q s ≤ M8.S s (fun i => b (p + i)) ∧ M8.S s (fun i => b (p + i)) ≤ q s + 1) : runP 5 m_is_even [.str (TX m b)] = some (.bool true) := by
  have hz : ((TX m b).length : Int) = (m : Int) := by rw [TX_len]
  have hg := gate hz (by omega) m2
  rw [all01 m b hb] at hg
  rw [even_open hz (by omega) m2 hg]
  congr 2
  rw [List.all_eq_true]
  intro x hx
  obtain ⟨d, hd, rfl⟩ := List.mem_map.mp hx
  obtain ⟨s, rfl, s1, s2⟩ := mem_upTo hd
  obtain ⟨s, rfl⟩ : ∃ k : Nat, s = k := ⟨s.toNat, by omega⟩
  have hne := rowI_ne (TX m b) s (k := ((m : Int) - s + 1).toNat) (by omega)
  have key : ∀ v ∈ rowI (TX m b) s ((m : Int) - s + 1).toNat, (q s : Int) ≤ v ∧ v ≤ (q s : Int) + 1 := by
    intro v hv
    unfold rowI at hv
    obtain ⟨p, hp, rfl⟩ := List.mem_map.mp hv
    rw [List.mem_range] at hp
    have hps : p + s ≤ m := by omega
    have e : (p : Int) + (s : Int) = ((p + s : Nat) : Int) := by omega
    rw [e, TX_window m b hb hps]
    have := h s p hps
    omega
  have k1 := key _ (maxI_spec _ hne).1
  have k2 := key _ (minI_spec _ hne).1
  show decide (maxI (rowI (TX m b) s ((m : Int) - s + 1).toNat) - minI (rowI (TX m b) s ((m : Int) - s + 1).toNat) ≤ 1) = true
  rw [decide_eq_true_eq]
  omega
theorem even_bad {z : Str} {s p p' : Nat} (hz : (z.length : Int) ≤ 1000) (s1 : 1 ≤ s) (h1 : p + s ≤ z.length) (h2 : p' + s ≤ z.length)
    (h : Txt.count (cutS z (some (p : Int)) (some ((p + s : Nat) : Int))) "1" + 2 ≤ Txt.count (cutS z (some (p' : Int)) (some ((p' + s : Nat) : Int))) "1") : runP 5 m_is_even [.str z] = some (.bool false) := by
  by_cases hn : (1 : Int) ≤ z.length ∧ (z.length : Int) ≤ 60
  · have hg := gate (z := z) rfl hn.1 hn.2
    cases ha : (z.cps.toList.all fun c => decide (c ∈ ("01" : Str).cps.toList)) with
    | false => rw [ha] at hg; exact even_gated hg
    | true =>
      rw [ha] at hg
      rw [even_open rfl hn.1 hn.2 hg]
      congr 2
      rw [List.all_eq_false]
      refine ⟨_, List.mem_map.mpr ⟨.int s, ?_, rfl⟩, ?_⟩
      · unfold DL.upTo
        refine List.mem_map.mpr ⟨s - 1, List.mem_range.mpr (by omega), ?_⟩
        congr 1
        omega
      · show ¬ (id (decide (maxI (rowI z s ((z.length : Int) - s + 1).toNat) - minI (rowI z s ((z.length : Int) - s + 1).toNat) ≤ 1)) = true)
        have hne := rowI_ne z s (k := ((z.length : Int) - s + 1).toNat) (by omega)
        have mem : ∀ r : Nat, r + s ≤ z.length → Txt.count (cutS z (some (r : Int)) (some ((r + s : Nat) : Int))) "1" ∈ rowI z s ((z.length : Int) - s + 1).toNat := fun r hr => by
          unfold rowI
          refine List.mem_map.mpr ⟨r, List.mem_range.mpr (by omega), ?_⟩
          have e : (r : Int) + (s : Int) = ((r + s : Nat) : Int) := by omega
          rw [e]
        have k1 := (maxI_spec _ hne).2 _ (mem p' h2)
        have k2 := (minI_spec _ hne).2 _ (mem p h1)
        show ¬ (decide _ = true)
        rw [decide_eq_true_eq]
        omega
  · exact even_gated (gate_long rfl hn hz)
theorem even_alien {z : Str} {c : Nat} (hz : (z.length : Int) ≤ 1000) (hc : c ∈ z.cps.toList) (h1 : c ≠ 48) (h2 : c ≠ 49) : runP 5 m_is_even [.str z] = some (.bool false) := by
  by_cases hn : (1 : Int) ≤ z.length ∧ (z.length : Int) ≤ 60
  · have hg := gate (z := z) rfl hn.1 hn.2
    have ha : (z.cps.toList.all fun c => decide (c ∈ ("01" : Str).cps.toList)) = false := by
      rw [List.all_eq_false]
      have e : ("01" : Str).cps.toList = [48, 49] := by decide
      refine ⟨c, hc, ?_⟩
      rw [e]
      simp [h1, h2]
    rw [ha] at hg
    exact even_gated hg
  · exact even_gated (gate_long rfl hn hz)
theorem even_empty : runP 5 m_is_even [.str ""] = some (.bool false) := even_gated (gate_long (n := 0) rfl (by omega) (by omega))
theorem drop_len {α : Type} (A T : List α) (i : Nat) : (A ++ T).drop (A.length + i) = T.drop i := by
  rw [← List.drop_drop, List.drop_left]
/-- a tail that is not even -/
theorem even_tail {z : Str} {A T : List Nat} {i j : Nat} (hz : (z.length : Int) ≤ 1000) (h : z.cps.toList = A ++ T) (hi : i + 2 ≤ T.length) (hj : j + 2 ≤ T.length) (h1 : (T.drop i).take 2 = [48, 48]) (h2 : (T.drop j).take 2 = [49, 49]) : runP 5 m_is_even [.str z] = some (.bool false) := by
  have hl : z.length = A.length + T.length := by
    show z.cps.size = _
    rw [← Array.length_toList, h, List.length_append]
  refine even_bad (s := 2) (p := A.length + i) (p' := A.length + j) hz (by omega) (by omega) (by omega) ?_
  rw [count_1, count_1, cut_mid _ (by omega), cut_mid _ (by omega), h, drop_len, drop_len, h1, h2]
  decide
end Lw

namespace Lw
open PySem PySem.Spec PyProof.Rows L2 DL
def vI (M O p : Int) : Int := (p + 1) * O / M - p * O / M
theorem v01 {M O : Int} (M1 : 1 ≤ M) (O0 : 0 ≤ O) (O1 : O ≤ M) (p : Int) : vI M O p = 0 ∨ vI M O p = 1 := by
  unfold vI
  rw [Int.add_mul, Int.one_mul]
  have h1 : p * O / M ≤ (p * O + O) / M := Int.ediv_le_ediv (by omega) (by omega)
  have h2 : (p * O + O) / M ≤ (p * O + 1 * M) / M := Int.ediv_le_ediv (by omega) (by omega)
  rw [Int.add_mul_ediv_right _ _ (by omega)] at h2
  omega
def ewD (M O : Int) : D → D
  | .int p => .str (one (48 + (vI M O p).toNat))
  | d => d
theorem str01 {v : Int} (h : v = 0 ∨ v = 1) : strD [.int v] = some (.str (one (48 + v.toNat))) := by
  have e0 : (Str.ofString (toString (0 : Int))) = one 48 := by decide +kernel
  have e1 : (Str.ofString (toString (1 : Int))) = one 49 := by decide +kernel
  rcases h with rfl | rfl
  · show (if (0 : Int).natAbs.log2 < 1920 then some (PyData.str (Str.ofString (toString (0 : Int)))) else none) = _
    rw [if_pos (by decide +kernel), e0]
    rfl
  · show (if (1 : Int).natAbs.log2 < 1920 then some (PyData.str (Str.ofString (toString (1 : Int)))) else none) = _
    rw [if_pos (by decide +kernel), e1]
    rfl
def WD (M O : Int) : Str := TX M.toNat (w0 M.toNat O.toNat)
theorem ew_map {M O : Int} (M1 : 1 ≤ M) (O0 : 0 ≤ O) : (DL.upTo 0 M.toNat).map (ewD M O) = ((List.range M.toNat).map fun i => one (48 + w0 M.toNat O.toNat i)).map .str := by
  obtain ⟨m, rfl⟩ : ∃ k : Nat, M = k := ⟨M.toNat, by omega⟩
  obtain ⟨o, rfl⟩ : ∃ k : Nat, O = k := ⟨O.toNat, by omega⟩
  unfold DL.upTo
  rw [List.map_map, List.map_map]
  refine List.map_congr_left fun i _ => ?_
  show PyData.str (one (48 + (vI m o (0 + (i : Int))).toNat)) = PyData.str (one (48 + w0 m o i))
  have e : vI m o (0 + (i : Int)) = ((w0 m o i : Nat) : Int) := by
    have hm := fl_mono m o (show i ≤ i + 1 by omega)
    have e1 : ((i : Int) + 1) * o / m = ((fl m o (i + 1) : Nat) : Int) := by unfold fl; push_cast; rfl
    have e2 : (i : Int) * o / m = ((fl m o i : Nat) : Int) := by unfold fl; push_cast; rfl
    unfold vI w0
    rw [Int.zero_add, e1, e2]
    omega
  rw [e, Int.toNat_natCast]
theorem ew_join {M O : Int} (M1 : 1 ≤ M) (M2 : M ≤ 1000) (O0 : 0 ≤ O) : joinD (.str "") (.list ((DL.upTo 0 M.toNat).map (ewD M O))) = some (.str (WD M O)) := by
  rw [ew_map M1 O0]
  exact joinD_TX _ (by omega)
def ewF : ME D := cb strD (aCons (b2 subD (b2 fdivD (b2 mulA (b2 addA (nm 2) (rt (.int 1))) (nm 1)) (nm 0)) (b2 fdivD (b2 mulA (nm 2) (nm 1)) (nm 0))) (aNil))
theorem ew_eq : m_even_word = seqS (ifS (tNo (tv (cl 3 (runP 3 m_is_within) (aCons (nm 0) (aCons (rt (.int 1)) (aCons (rt (.int 60)) (aNil))))))) (nevS) (nxS))
    (seqS (ifS (tNo (tv (cl 3 (runP 3 m_is_within) (aCons (nm 1) (aCons (rt (.int 0)) (aCons (nm 0) (aNil))))))) (nevS) (nxS))
    (retS (b2 joinD (rt (.str "")) (fr (lcS (rngI rng1D (aCons (nm 0) (aNil))) (gNm 2) (rt true) ewF [2]))))) := rfl
theorem v_even_word {M O : Int} (M1 : 1 ≤ M) (M2 : M ≤ 60) (O0 : 0 ≤ O) (O1 : O ≤ M) : runP 3 m_even_word [.int M, .int O] = some (.str (WD M O)) := by
  have q1 : ∀ x : Int, fdivD (.int x) (.int M) = some (.int (x / M)) := fun x => fdiv_i (by omega)
  have q2 : ∀ x : Int, mulA (.int x) (.int O) = some (.int (x * O)) := fun x => mul_i (by simp [sm_of (j := O) (by omega) (by omega)])
  have hi : rngI rng1D (aCons (nm 0) aNil) [.v (.int M), .v (.int O), .u] = some (DL.upTo 0 M.toNat, [.v (.int M), .v (.int O), .u]) := by
    have : rng1D [.int M] = some (DL.upTo 0 M.toNat) := if_pos (by omega)
    simp only [ap_rngI, ap_seqS, ap_ifS, ap_tNo, ap_tAn, ap_tOr, ap_tv, ap_vAn, ap_vNo, ap_cl, ap_clI, ap_cb, ap_aCons, ap_aNil, ap_nm, gv_s, gv_0, go_0, Option.map_some, Option.bind_some, ap_rt, ap_bd, ap_lf, ap_fr, ap_b2, ap_u1, List.length_cons, List.length_nil, Nat.zero_add, Nat.reduceAdd, if_true, ap_asB, Bool.not_true, Bool.not_false, Bool.false_eq_true, if_false, ap_nxS, oc_nx, oc_rt, ap_drp, ap_asgS, ap_retS, ap_parS, ap_mV, ap_mNil, setAll_cons, setAll_nil, List.set_cons_succ, List.set_cons_zero, add_i, sub_i, lt_i, le_i, gt_i, ge_i, ne_i, eq_i, int_i, min2_i, max2_i, short2, short3, short4, ap_tupS, outI_rt, outP_rt, this]
  have hc := lc_map (k := 2) (f := ewF) (y := ewD M O) hi rfl (by rw [len_upTo]; omega) (fun d hd => by
    obtain ⟨p, rfl, _⟩ := mem_upTo hd
    have hs := str01 (v01 M1 O0 O1 p)
    unfold vI at hs
    unfold ewF
    simp only [ap_seqS, ap_ifS, ap_tNo, ap_tAn, ap_tOr, ap_tv, ap_vAn, ap_vNo, ap_cl, ap_clI, ap_cb, ap_aCons, ap_aNil, ap_nm, gv_s, gv_0, go_0, Option.map_some, Option.bind_some, ap_rt, ap_bd, ap_lf, ap_fr, ap_b2, ap_u1, List.length_cons, List.length_nil, Nat.zero_add, Nat.reduceAdd, if_true, ap_asB, Bool.not_true, Bool.not_false, Bool.false_eq_true, if_false, ap_nxS, oc_nx, oc_rt, ap_drp, ap_asgS, ap_retS, ap_parS, ap_mV, ap_mNil, setAll_cons, setAll_nil, List.set_cons_succ, List.set_cons_zero, add_i, sub_i, lt_i, le_i, gt_i, ge_i, ne_i, eq_i, int_i, min2_i, max2_i, short2, short3, short4, ap_tupS, outI_rt, outP_rt, q1, q2, hs]
    rfl)
  have i1 : (1 : Int) ≤ M ∧ M ≤ 60 := ⟨M1, M2⟩
  have i2 : (0 : Int) ≤ O ∧ O ≤ M := ⟨O0, O1⟩
  rw [runP_d, ew_eq]
  have e : envP 3 [.int M, .int O] = [.v (.int M), .v (.int O), .u] := rfl
  rw [e]
  simp only [ap_seqS, ap_ifS, ap_tNo, ap_tAn, ap_tOr, ap_tv, ap_vAn, ap_vNo, ap_cl, ap_clI, ap_cb, ap_aCons, ap_aNil, ap_nm, gv_s, gv_0, go_0, Option.map_some, Option.bind_some, ap_rt, ap_bd, ap_lf, ap_fr, ap_b2, ap_u1, List.length_cons, List.length_nil, Nat.zero_add, Nat.reduceAdd, if_true, ap_asB, Bool.not_true, Bool.not_false, Bool.false_eq_true, if_false, ap_nxS, oc_nx, oc_rt, ap_drp, ap_asgS, ap_retS, ap_parS, ap_mV, ap_mNil, setAll_cons, setAll_nil, List.set_cons_succ, List.set_cons_zero, add_i, sub_i, lt_i, le_i, gt_i, ge_i, ne_i, eq_i, int_i, min2_i, max2_i, short2, short3, short4, ap_tupS, outI_rt, outP_rt, within_ok i1, within_ok i2, hc, ew_join M1 (show M ≤ 1000 by omega) O0]
/-! signs -/
def sgF : ME D := cb strD (aCons (cb intD (aCons (b2 gtD (b2 fdivD (b2 mulA (b2 addA (nm 6) (rt (.int 1))) (nm 2)) (nm 1)) (b2 fdivD (b2 mulA (nm 6) (nm 2)) (nm 1))) (aNil))) (aNil))
theorem sg_L {e : En} {M O : Int} (M1 : 1 ≤ M) (M2 : M ≤ 60) (O0 : 0 ≤ O) (O1 : O ≤ M) (h1 : gv e 1 = some (.int M)) (h2 : gv e 2 = some (.int O)) (hu : e[6]? = some .u) : lcS (rngI rng1D (aCons (nm 1) (aNil))) (gNm 6) (rt true) sgF [6] e = some ((DL.upTo 0 M.toNat).map (ewD M O), e) := by
  have q1 : ∀ x : Int, fdivD (.int x) (.int M) = some (.int (x / M)) := fun x => fdiv_i (by omega)
  have q2 : ∀ x : Int, mulA (.int x) (.int O) = some (.int (x * O)) := fun x => mul_i (by simp [sm_of (j := O) (by omega) (by omega)])
  have hi : rngI rng1D (aCons (nm 1) aNil) e = some (DL.upTo 0 M.toNat, e) := by
    have : rng1D [.int M] = some (DL.upTo 0 M.toNat) := if_pos (by omega)
    simp only [ap_rngI, ap_aCons, ap_nm, h1, Option.map_some, Option.bind_some, ap_aNil, this]
  refine lc_map (k := 6) (f := sgF) hi hu (by rw [len_upTo]; omega) fun d hd => ?_
  obtain ⟨p, rfl, _⟩ := mem_upTo hd
  have h01 := v01 M1 O0 O1 p
  have hv : (if decide (p * O / M < (p + 1) * O / M) = true then (1 : Int) else 0) = vI M O p := by
    unfold vI at *
    split
    · rename_i h
      have h : p * O / M < (p + 1) * O / M := by simpa using h
      omega
    · rename_i h
      have h : ¬ p * O / M < (p + 1) * O / M := by simpa using h
      omega
  have hs := str01 h01
  unfold sgF
  simp only [ap_cb, ap_aCons, ap_aNil, ap_b2, ap_nm, gv_ne (show 6 ≠ 1 by decide), gv_ne (show 6 ≠ 2 by decide), gv_same hu, h1, h2, Option.map_some, Option.bind_some, ap_rt, add_i, q1, q2, gt_i, int_b, hv, hs]
  rfl
/-! the other word -/
def otF : ME D := u1 (dsub "0" "1" "1" "0") (nm 9)
def otD : D → D
  | .str z => match z.cps.toList with
    | [c] => .str (one (97 - c))
    | _ => .none
  | d => d
theorem ot_L {e : En} {z : Str} (hz : z.length ≤ 1000) (hc : ∀ c ∈ z.cps.toList, c = 48 ∨ c = 49) (h1 : gv e 4 = some (.str z)) (hu : e[9]? = some .u) : lcS (seqI (u1 revD (nm 4))) (gNm 9) (rt true) otF [9] e = some ((z.cps.toList.reverse.map fun c => one (97 - c)).map .str, e) := by
  have hr : revD (.str z) = some (.str ⟨z.cps.toList.reverse.toArray⟩) := by
    show (if z.length ≤ 1000000 then some (PyData.str ⟨z.cps.toList.reverse.toArray⟩) else none) = _
    rw [if_pos (by omega)]
  have hi : seqI (u1 revD (nm 4)) e = some (z.cps.toList.reverse.map fun c => PyData.str ⟨#[c]⟩, e) := by
    simp only [ap_seqI, ap_u1, ap_nm, h1, hr, Option.map_some, Option.bind_some]
    rfl
  have hl : (z.cps.toList.reverse.map fun c => PyData.str ⟨#[c]⟩).length ≤ 100000 := by
    rw [List.length_map, List.length_reverse, Array.length_toList]
    exact Nat.le_trans hz (by omega)
  have := lc_map (k := 9) (f := otF) (y := otD) hi hu hl (fun d hd => by
    obtain ⟨c, hcm, rfl⟩ := List.mem_map.mp hd
    have hcc := hc c (List.mem_reverse.mp hcm)
    have e1 : dsub "0" "1" "1" "0" (.str ⟨#[c]⟩) = some (.str (one (97 - c))) := by
      rcases hcc with rfl | rfl
      · show (if (one 48) = "0" ∧ ("0" : Str) ≠ "1" then some (PyData.str "1") else if (one 48) = "1" ∧ ("0" : Str) ≠ "1" then some (PyData.str "0") else none) = _
        rw [if_pos (by decide +kernel)]
        rfl
      · show (if (one 49) = "0" ∧ ("0" : Str) ≠ "1" then some (PyData.str "1") else if (one 49) = "1" ∧ ("0" : Str) ≠ "1" then some (PyData.str "0") else none) = _
        rw [if_neg (by decide +kernel), if_pos (by decide +kernel)]
        rfl
    unfold otF
    simp only [ap_u1, ap_nm, gv_same hu, Option.map_some, Option.bind_some, e1]
    rfl)
  rw [this, List.map_map, List.map_map]
  rfl
theorem WD_codes {M O : Int} (M1 : 1 ≤ M) (O0 : 0 ≤ O) (O1 : O ≤ M) : ∀ c ∈ (WD M O).cps.toList, c = 48 ∨ c = 49 := by
  intro c hc
  unfold WD at hc
  rw [TX_list] at hc
  obtain ⟨i, _, rfl⟩ := List.mem_map.mp hc
  have := w0_le (m := M.toNat) (o := O.toNat) (by omega) (by omega) i
  omega
theorem WD_len (M O : Int) : (WD M O).length = M.toNat := TX_len _ _
theorem ot_join {M O : Int} (M1 : 1 ≤ M) (M2 : M ≤ 1000) (O0 : 0 ≤ O) (O1 : O ≤ M) : joinD (.str "") (.list (((WD M O).cps.toList.reverse.map fun c => one (97 - c)).map .str)) = some (.str (WD M (M - O))) := by
  have h := joinD_TX (m := M.toNat) (w0 M.toNat (M - O).toNat) (by omega)
  have e : (WD M O).cps.toList.reverse.map (fun c => one (97 - c)) = (List.range M.toNat).map fun i => one (48 + w0 M.toNat (M - O).toNat i) := by
    have hr := congrArg (fun z : Str => z.cps.toList) (TX_rev M.toNat (w0 M.toNat O.toNat))
    have hr : (WD M O).cps.toList.reverse = (List.range M.toNat).map fun i => 48 + w0 M.toNat O.toNat (M.toNat - 1 - i) := hr
    rw [hr, List.map_map]
    refine List.map_congr_left fun i hi => ?_
    rw [List.mem_range] at hi
    have e1 : (M - O).toNat = M.toNat - O.toNat := by omega
    show one (97 - (48 + w0 M.toNat O.toNat (M.toNat - 1 - i))) = _
    rw [e1, w_other (by omega) (by omega) hi]
    have := w0_le (m := M.toNat) (o := O.toNat) (by omega) (by omega) (M.toNat - 1 - i)
    congr 1
    omega
  rw [e]
  exact h
theorem WD_count {M O : Int} (M1 : 1 ≤ M) (O0 : 0 ≤ O) (O1 : O ≤ M) : Txt.count (WD M O) "1" = O := by
  unfold WD
  rw [TX_count _ _ (w0_le (by omega) (by omega)), w_sum (by omega)]
  omega
theorem WD_double {M O : Int} (M1 : 1 ≤ M) (O0 : 0 ≤ O) : WD (2 * M) (2 * O) = WD M O ++ WD M O := by
  unfold WD
  rw [TX_double (by omega)]
  have e1 : (2 * M).toNat = 2 * M.toNat := by omega
  have e2 : (2 * O).toNat = 2 * O.toNat := by omega
  rw [e1, e2]
def TD (M O k : Int) : Str := TX M.toNat fun i => w0 M.toNat O.toNat (i + k.toNat)
theorem WD_turn {M O k : Int} (M1 : 1 ≤ M) (k0 : 0 ≤ k) (k1 : k < M) : cutS (WD M O) (some k) none ++ cutS (WD M O) none (some k) = TD M O k := by
  have h := TX_turn (m := M.toNat) (by omega) O.toNat (k := k.toNat) (by omega)
  have e : ((k.toNat : Nat) : Int) = k := by omega
  rw [e] at h
  exact h
theorem even_turn {M O k : Int} (M1 : 1 ≤ M) (M2 : M ≤ 60) (O0 : 0 ≤ O) (O1 : O ≤ M) : runP 5 m_is_even [.str (TD M O k)] = some (.bool true) := by
  have hm : 0 < M.toNat := by omega
  exact even_TX _ (fun s => fl M.toNat O.toNat s) (fun i => w0_le hm (by omega) _) (by omega) (by omega) fun s p _ => win_turn hm O.toNat k.toNat p s
theorem even_word {M O : Int} (M1 : 1 ≤ M) (M2 : M ≤ 60) (O0 : 0 ≤ O) (O1 : O ≤ M) : runP 5 m_is_even [.str (WD M O)] = some (.bool true) := by
  have hm : 0 < M.toNat := by omega
  exact even_TX _ (fun s => fl M.toNat O.toNat s) (fun i => w0_le hm (by omega) _) (by omega) (by omega) fun s p _ => win_turn hm O.toNat 0 p s
theorem even_back {M O : Int} (M1 : 1 ≤ M) (M2 : M ≤ 60) (O0 : 0 ≤ O) (O1 : O ≤ M) : runP 5 m_is_even [.str ⟨(WD M O).cps.toList.reverse.toArray⟩] = some (.bool true) := by
  have hm : 0 < M.toNat := by omega
  unfold WD
  rw [TX_rev]
  exact even_TX _ (fun s => fl M.toNat O.toNat s) (fun i => w0_le hm (by omega) _) (by omega) (by omega) fun s p hp => win_back hm O.toNat hp
/-! bent words -/
theorem bent_even {X T : Str} {i j : Nat} (hX : X.length ≤ 100) (hT : T.length ≤ 60) (hi : i + 2 ≤ T.cps.toList.length) (hj : j + 2 ≤ T.cps.toList.length) (h1 : (T.cps.toList.drop i).take 2 = [48, 48]) (h2 : (T.cps.toList.drop j).take 2 = [49, 49]) :
    runP 5 m_is_even [.str (cutS (X ++ T) (some (-60)) none)] = some (.bool false) := by
  have hn : (X ++ T).length = X.length + T.length := by
    show (X ++ T).cps.size = X.cps.size + T.cps.size
    rw [← Array.length_toList, app_list, List.length_append, Array.length_toList, Array.length_toList]
  have hXl : X.cps.toList.length = X.length := Array.length_toList
  have hTl : T.cps.toList.length = T.length := Array.length_toList
  have hs : HT.sIx (X ++ T).length 0 (some (-60)) = X.length + T.length - 60 := by
    show (if (-60 : Int) < 0 then ((-60 : Int) + ((X ++ T).length : Int)).toNat else min (-60 : Int).toNat (X ++ T).length) = _
    rw [if_pos (by omega), hn]
    omega
  have hl : (cutS (X ++ T) (some (-60)) none).cps.toList = X.cps.toList.drop (X.length + T.length - 60) ++ T.cps.toList := by
    rw [cut_list, hs, HT.sIx_none, app_list, hn, List.take_of_length_le (by rw [List.length_drop, List.length_append, hXl, hTl]; omega), List.drop_append]
    have : X.length + T.length - 60 - X.cps.toList.length = 0 := by omega
    rw [this, List.drop_zero]
  refine even_tail ?_ hl hi hj h1 h2
  have : (cutS (X ++ T) (some (-60)) none).length = (cutS (X ++ T) (some (-60)) none).cps.toList.length := Array.length_toList.symm
  rw [this, hl, List.length_append, List.length_drop]
  omega
theorem is_str {z : Str} (h : ∀ c ∈ z.cps.toList, c = 48 ∨ c = 49) (hl : z.length ≤ 1000) : runP 2 m__law_is [.str z, .str z] = some (.bool true) := by
  refine v_law_is ((Oks.str (w := 1000) (fun c hc => ?_) hl 0).ok (by omega) (by omega))
  have : (16 : Nat) ^ 8 = 4294967296 := by decide
  rcases h c hc with rfl | rfl <;> omega
theorem is_bools (bs : List Bool) (h : bs.length ≤ 60) : runP 2 m__law_is [.list (bs.map .bool), .list (bs.map .bool)] = some (.bool true) := by
  refine v_law_is ?_
  have : ∀ d ∈ bs.map PyData.bool, Oks d 0 1 := fun d hd => by
    obtain ⟨b, _, rfl⟩ := List.mem_map.mp hd
    exact Oks.bool b 0 1
  have h2 := Oks.list this
  rw [List.length_map] at h2
  exact h2.ok (by omega) (by omega)
end Lw

namespace Lw
open PySem PySem.Spec PyProof.Rows L2 DL
theorem short1 (a : D) : shortL [a] = some [a] := rfl
theorem add_s {a b : Str} (h : a.length + b.length ≤ 1000000) : addA (.str a) (.str b) = some (.str (a ++ b)) := by
  show (if a.length + b.length ≤ 1000000 then some (PyData.str (a ++ b)) else none) = _
  rw [if_pos h]
theorem cut_le (z : Str) (lo hi : Option Int) : (cutS z lo hi).length ≤ z.length := by
  have e : ∀ y : Str, y.length = y.cps.toList.length := fun y => Array.length_toList.symm
  rw [e, e, cut_list, List.length_take, List.length_drop]
  omega
theorem rep3 : mulA (.list [.bool true]) (.int 3) = some (.list [.bool true, .bool true, .bool true]) := rfl
theorem rep4 : mulA (.list [.bool false]) (.int 4) = some (.list [.bool false, .bool false, .bool false, .bool false]) := rfl
theorem is_ttt : runP 2 m__law_is [.list [.bool true, .bool true, .bool true], .list [.bool true, .bool true, .bool true]] = some (.bool true) := is_bools [true, true, true] (by simp)
theorem is_ffff : runP 2 m__law_is [.list [.bool false, .bool false, .bool false, .bool false], .list [.bool false, .bool false, .bool false, .bool false]] = some (.bool true) := is_bools [false, false, false, false] (by simp)
theorem app_len (a b : Str) : (a ++ b).length = a.length + b.length := by
  have e : ∀ y : Str, y.length = y.cps.toList.length := fun y => Array.length_toList.symm
  rw [e, e, e, app_list, List.length_append]
theorem words {h : D} (hh : HOK h) : ∃ h', runI 10 m__law_are_words_right h [] = some (.bool true, h') ∧ HOK h' := by
  obtain ⟨M0, h1, k1, M1, M2, ok1⟩ := v_draw (k := 60) hh (by omega)
  obtain ⟨M, rfl⟩ : ∃ t, M0 = t - 1 := ⟨M0 + 1, by omega⟩
  have eM : 1 + (M - 1) = M := by omega
  have M1 : 1 ≤ M := by omega
  have M2 : M ≤ 60 := by omega
  obtain ⟨x, h2, k2, x1, x2, ok2⟩ := v_draw (k := M + 1) ok1 (by omega)
  obtain ⟨y, h3, k3, y1, y2, ok3⟩ := v_draw (k := M + 1) ok2 (by omega)
  obtain ⟨dO, h4, hdO, k4, ok4⟩ := v_any (ds := [.int 0, .int M, .int x, .int y]) ok3 (by simp) (by simp)
  have hO : ∃ m : Int, dO = .int m ∧ 0 ≤ m ∧ m ≤ M := by
    simp at hdO
    rcases hdO with rfl | rfl | rfl | rfl <;> exact ⟨_, rfl, by omega, by omega⟩
  obtain ⟨O, rfl, O0, O1⟩ := hO
  have cA := fun (e : En) h1 h2 hu => sg_L (e := e) M1 M2 O0 O1 h1 h2 hu
  unfold sgF at cA
  have ew := v_even_word M1 M2 O0 O1
  have ew2 := v_even_word (O := M - O) M1 M2 (by omega) (by omega)
  have ej := ew_join M1 (show M ≤ 1000 by omega) O0
  have wc := WD_codes M1 O0 O1
  have wl := WD_len M O
  have wl2 := WD_len M (M - O)
  have is_a := is_str wc (by omega)
  have wcnt := WD_count M1 O0 O1
  have cB := fun (e : En) h1 hu => ot_L (e := e) (z := WD M O) (by omega) wc h1 hu
  unfold otF at cB
  have oj := ot_join M1 (show M ≤ 1000 by omega) O0 O1
  have is_b := is_str (WD_codes (O := M - O) M1 (by omega) (by omega)) (by omega)
  have wd := WD_double M1 O0
  obtain ⟨k, h5, k5, a1, a2, ok5⟩ := v_draw (k := M) ok4 (by omega)
  have tw := WD_turn (O := O) M1 a1 a2
  have et := even_turn (k := k) M1 M2 O0 O1
  have eo := even_word (O := M - O) M1 M2 (by omega) (by omega)
  have eb := even_back M1 M2 O0 O1
  have hrv : revD (.str (WD M O)) = some (.str ⟨(WD M O).cps.toList.reverse.toArray⟩) := by
    show (if (WD M O).length ≤ 1000000 then some (PyData.str ⟨(WD M O).cps.toList.reverse.toArray⟩) else none) = _
    rw [if_pos (by omega)]
  have s1 := slS_d (z := WD M O) (by omega)
  have l1 := cut_le (WD M O) (some k) none
  have l2 := cut_le (WD M O) none (some k)
  have ad1 := add_s (a := cutS (WD M O) (some k) none) (b := cutS (WD M O) none (some k)) (by omega)
  rw [tw] at ad1
  have tl : (TD M O k).length = M.toNat := TX_len _ _
  generalize TD M O k = TT at *
  have s2 := slS_d (z := TT) (by omega)
  have l3 := cut_le TT none (some (if M - 4 > 0 then M - 4 else 0))
  obtain ⟨dT, h6, hdT, k6, ok6⟩ := v_any (ds := [.str "1100", .str "0011", .str "110100"]) ok5 (by simp) (by simp)
  have hT : ∃ T : Str, dT = .str T ∧ T.length ≤ 60 ∧ ∃ i j, i + 2 ≤ T.cps.toList.length ∧ j + 2 ≤ T.cps.toList.length ∧ (T.cps.toList.drop i).take 2 = [48, 48] ∧ (T.cps.toList.drop j).take 2 = [49, 49] := by
    simp at hdT
    rcases hdT with rfl | rfl | rfl
    · exact ⟨_, rfl, by decide, 2, 0, by decide, by decide, by decide, by decide⟩
    · exact ⟨_, rfl, by decide, 0, 2, by decide, by decide, by decide, by decide⟩
    · exact ⟨_, rfl, by decide, 4, 0, by decide, by decide, by decide, by decide⟩
  obtain ⟨T, rfl, T1, i, j, T2, T3, T4, T5⟩ := hT
  have be := bent_even (X := cutS TT none (some (if M - 4 > 0 then M - 4 else 0))) (by omega) T1 T2 T3 T4 T5
  have ad2 := add_s (a := cutS TT none (some (if M - 4 > 0 then M - 4 else 0))) (b := T) (by omega)
  have s3 := slS_d (z := cutS TT none (some (if M - 4 > 0 then M - 4 else 0)) ++ T) (by rw [app_len]; omega)
  have ad3 := add_s (a := WD M O) (b := "2") (by rw [wl]; show M.toNat + 1 ≤ _; omega)
  have ea : runP 5 m_is_even [.str (WD M O ++ "2")] = some (.bool false) := by
    refine even_alien (c := 50) ?_ ?_ (by decide) (by decide)
    · rw [app_len, wl]
      show ((M.toNat + 1 : Nat) : Int) ≤ 1000
      omega
    · rw [app_list]
      exact List.mem_append_right _ (by decide)
  have q1 : ∀ x : Int, mulA (.int 2) (.int x) = some (.int (2 * x)) := fun x => mul_i rfl
  have neq : (!(O == O)) = false := by simp
  refine ⟨h6, ?_, ok6⟩
  rw [runI_d]
  unfold m__law_are_words_right
  simp only [envP, List.map_nil, List.nil_append, List.replicate, Nat.reduceSub, List.length_nil, ap_seqS, ap_ifS, ap_tNo, ap_tAn, ap_tOr, ap_tv, ap_vAn, ap_vNo, ap_cl, ap_clI, ap_cb, ap_aCons, ap_aNil, ap_nm, gv_s, gv_0, go_0, Option.map_some, Option.bind_some, ap_rt, ap_bd, ap_lf, ap_fr, ap_b2, ap_u1, List.length_cons, List.length_nil, Nat.zero_add, Nat.reduceAdd, if_true, ap_asB, Bool.not_true, Bool.not_false, Bool.false_eq_true, if_false, ap_nxS, oc_nx, oc_rt, ap_drp, ap_asgS, ap_retS, ap_parS, ap_mV, ap_mNil, setAll_cons, setAll_nil, List.set_cons_succ, List.set_cons_zero, add_i, sub_i, lt_i, le_i, gt_i, ge_i, ne_i, eq_i, int_i, min2_i, max2_i, short2, short3, short4, ap_tupS, outI_rt, outP_rt, k1, eM, k2, k3, k4, cA, List.getElem?_cons_succ, List.getElem?_cons_zero, ew, ej, is_a, cnt_d, wcnt, neq, cB, oj, ew2, is_b, Option.map_some, ap_asI]
  by_cases c : M ≤ 30
  · have c' : decide (M ≤ 30) = true := by simpa using c
    have ew3 := v_even_word (M := 2 * M) (O := 2 * O) (by omega) (by omega) (by omega) (by omega)
    rw [wd] at ew3
    have ad4 := add_s (a := WD M O) (b := WD M O) (by omega)
    have is_c := is_str (z := WD M O ++ WD M O) (by
      intro c hc
      rw [app_list] at hc
      rcases List.mem_append.mp hc with hc | hc <;> exact wc c hc) (by rw [app_len]; omega)
    simp only [ap_seqS, ap_ifS, ap_tNo, ap_tAn, ap_tOr, ap_tv, ap_vAn, ap_vNo, ap_cl, ap_clI, ap_cb, ap_aCons, ap_aNil, ap_nm, gv_s, gv_0, go_0, Option.map_some, Option.bind_some, ap_rt, ap_bd, ap_lf, ap_fr, ap_b2, ap_u1, List.length_cons, List.length_nil, Nat.zero_add, Nat.reduceAdd, if_true, ap_asB, Bool.not_true, Bool.not_false, Bool.false_eq_true, if_false, ap_nxS, oc_nx, oc_rt, ap_drp, ap_asgS, ap_retS, ap_parS, ap_mV, ap_mNil, setAll_cons, setAll_nil, List.set_cons_succ, List.set_cons_zero, add_i, sub_i, lt_i, le_i, gt_i, ge_i, ne_i, eq_i, int_i, min2_i, max2_i, short2, short3, short4, ap_tupS, outI_rt, outP_rt, c', q1, ew3, ad4, is_c, k5, ap_slS, ap_oSo, ap_oNo, ap_asI, s1, ad1, et, eo, hrv, eb, short1, rep3, is_ttt, s2, k6, ad2, neg_i, s3, be, even_empty, ad3, ea, even_none, rep4, is_ffff, Option.map_some]
  · have c' : decide (M ≤ 30) = false := by simpa using c
    simp only [ap_seqS, ap_ifS, ap_tNo, ap_tAn, ap_tOr, ap_tv, ap_vAn, ap_vNo, ap_cl, ap_clI, ap_cb, ap_aCons, ap_aNil, ap_nm, gv_s, gv_0, go_0, Option.map_some, Option.bind_some, ap_rt, ap_bd, ap_lf, ap_fr, ap_b2, ap_u1, List.length_cons, List.length_nil, Nat.zero_add, Nat.reduceAdd, if_true, ap_asB, Bool.not_true, Bool.not_false, Bool.false_eq_true, if_false, ap_nxS, oc_nx, oc_rt, ap_drp, ap_asgS, ap_retS, ap_parS, ap_mV, ap_mNil, setAll_cons, setAll_nil, List.set_cons_succ, List.set_cons_zero, add_i, sub_i, lt_i, le_i, gt_i, ge_i, ne_i, eq_i, int_i, min2_i, max2_i, short2, short3, short4, ap_tupS, outI_rt, outP_rt, c', k5, ap_slS, ap_oSo, ap_oNo, ap_asI, s1, ad1, et, eo, hrv, eb, short1, rep3, is_ttt, s2, k6, ad2, neg_i, s3, be, even_empty, ad3, ea, even_none, rep4, is_ffff, Option.map_some]
end Lw

namespace Lw
open PySem PySem.Spec PyProof.Rows L2 DL
def abD : D → D
  | .int p => .int (if p < 0 then -p else p)
  | d => d
def haF : ME D := cb absD (aCons (cb intD (aCons (nm 2) (aNil))) (aNil))
theorem cut_len {α : Type} (xs : List α) (lo hi : Option Int) : (cutA xs lo hi).length ≤ xs.length := by
  unfold cutA
  rw [List.length_take, List.length_drop]
  omega
theorem hand_list (ns : List Int) (h : ns.length ≤ 63) : ∃ cs : List Int, lcS (seqI (fr (slSc 0 63))) (gNm 2) (rt true) haF [2] [.s ns, .u, .u] = some (cs.map .int, [.s ns, .u, .u]) := by
  have hi : seqI (fr (slSc 0 63)) [.s ns, .u, .u] = some ((cutA ns none (some 63)).map .int, [.s ns, .u, .u]) := by
    have : slSc 0 63 [.s ns, .u, .u] = some ((cutA ns none (some 63)).map .int, [.s ns, .u, .u]) := rfl
    simp only [ap_seqI, ap_fr, this, Option.map_some, Option.bind_some]
    rfl
  have hl := cut_len ns none (some 63)
  have hc := lc_map (k := 2) (f := haF) (y := abD) hi rfl (by rw [List.length_map]; omega) (fun d hd => by
    obtain ⟨p, _, rfl⟩ := List.mem_map.mp hd
    unfold haF
    simp only [ap_seqS, ap_ifS, ap_tNo, ap_tAn, ap_tOr, ap_tv, ap_vAn, ap_vNo, ap_cl, ap_clI, ap_cb, ap_aCons, ap_aNil, ap_nm, gv_s, gv_0, go_0, Option.map_some, Option.bind_some, ap_rt, ap_bd, ap_lf, ap_fr, ap_b2, ap_u1, List.length_cons, List.length_nil, Nat.zero_add, Nat.reduceAdd, if_true, ap_asB, Bool.not_true, Bool.not_false, Bool.false_eq_true, if_false, ap_nxS, oc_nx, oc_rt, ap_drp, ap_asgS, ap_retS, ap_parS, ap_mV, ap_mNil, setAll_cons, setAll_nil, List.set_cons_succ, List.set_cons_zero, add_i, sub_i, lt_i, le_i, gt_i, ge_i, ne_i, eq_i, int_i, min2_i, max2_i, short2, short3, short4, ap_tupS, outI_rt, outP_rt, abs_i]
    rfl)
  refine ⟨(cutA ns none (some 63)).map fun p => if p < 0 then -p else p, ?_⟩
  rw [hc, List.map_map, List.map_map]
  rfl
theorem short5 (a b c d e : D) : shortL [a, b, c, d, e] = some [a, b, c, d, e] := rfl
theorem v_hand (ns : List Int) (h : ns.length ≤ 63) : ∃ ds, runS 3 m__law_hand ns = some ds ∧ HOK (.list ds) := by
  obtain ⟨cs, hc⟩ := hand_list ns h
  have q1 : ∀ x : Int, mulA (.int 7) (.int x) = some (.int (7 * x)) := fun x => mul_i rfl
  have e : ∃ n e', m__law_hand [.s ns, .u, .u] = some (.rn (.list [.list (cs.map .int), .int 0, .int 0, .int n, .int 0]), e') := by
    unfold haF at hc
    unfold m__law_hand
    generalize hn : ((cs.map PyData.int).length : Int) = n
    have hl : lenD [.list (cs.map .int)] = some (.int n) := by rw [len_l, hn]
    simp only [ap_seqS, ap_asgS, ap_fr, hc, Option.map_some, List.set_cons_succ, List.set_cons_zero, oc_nx, ap_retN, ap_bd, ap_aCons, ap_aNil, ap_nm, gv_s, gv_0, ap_rt, ap_b2, ap_cb, Option.bind_some, hl, q1, add_i, ap_lf, short5]
    exact ⟨_, _, rfl⟩
  obtain ⟨n, e', e⟩ := e
  refine ⟨_, ?_, cs, 0, 0, n, 0, rfl, by omega, by omega⟩
  show (match m__law_hand (.s ns :: List.replicate (3 - 1) .u) with
    | some (.rn (.list d), _) => some d
    | _ => none) = _
  have e2 : (Sl.s ns :: List.replicate (3 - 1) Sl.u) = [.s ns, .u, .u] := rfl
  rw [e2, e]
theorem is_pin : runP 2 m__law_is [.list [.int 4, .int 4, .str "00101"], .list [.int 4, .int 4, .str "00101"]] = some (.bool true) := by
  refine v_law_is ?_
  have : ∀ d ∈ [PyData.int 4, .int 4, .str "00101"], Oks d 0 200 := fun d hd => by
    simp at hd
    rcases hd with rfl | rfl
    · exact Oks.int (tiny_of (by omega) (by omega)) 0
    · exact Oks.str (fun c hc => by
        have e : ("00101" : Str).cps.toList = [48, 48, 49, 48, 49] := by decide +kernel
        rw [e] at hc
        have : (16 : Nat) ^ 8 = 4294967296 := by decide
        simp at hc
        omega) (by decide +kernel) 0
  exact (Oks.list this).ok (by omega) (by simp)
theorem pin1 : BS 5 3 5 = 4 := by decide +kernel
theorem pin2 : BS 3 5 3 = 4 := by decide +kernel
theorem pin3 : WD 5 2 = "00101" := by decide +kernel
def tuB : ME Fl := ifS (tOr' (tNo (tv (clI 0 (runI 12 m__law_are_bills_right) 1 (aNil)))) (tOr' (tNo (tv (clI 0 (runI 18 m__law_are_floors_right) 1 (aNil)))) (tNo (tv (clI 0 (runI 10 m__law_are_words_right) 1 (aNil)))))) (retS (rt (.bool false))) (nxS)
def tuI (ns : List Int) (e : En) : Prop := ∃ h s, e = [.s ns, .o h, s] ∧ HOK h
theorem turn (ns : List Int) (d : D) (e : En) (h : tuI ns e) : ∃ e1 e2, gNm 2 d e = some e1 ∧ tuB e1 = some (.nx, e2) ∧ tuI ns e2 := by
  obtain ⟨h, s, rfl, ok⟩ := h
  obtain ⟨h1, k1, ok1⟩ := bills ok
  obtain ⟨h2, k2, ok2⟩ := floors ok1
  obtain ⟨h3, k3, ok3⟩ := words ok2
  refine ⟨_, [.s ns, .o h3, .v d], rfl, ?_, h3, _, rfl, ok3⟩
  unfold tuB
  simp only [ap_seqS, ap_ifS, ap_tNo, ap_tAn, ap_tOr, ap_tv, ap_vAn, ap_vNo, ap_cl, ap_clI, ap_cb, ap_aCons, ap_aNil, ap_nm, gv_s, gv_0, go_0, Option.map_some, Option.bind_some, ap_rt, ap_bd, ap_lf, ap_fr, ap_b2, ap_u1, List.length_cons, List.length_nil, Nat.zero_add, Nat.reduceAdd, if_true, ap_asB, Bool.not_true, Bool.not_false, Bool.false_eq_true, if_false, ap_nxS, oc_nx, oc_rt, ap_drp, ap_asgS, ap_retS, ap_parS, ap_mV, ap_mNil, setAll_cons, setAll_nil, List.set_cons_succ, List.set_cons_zero, add_i, sub_i, lt_i, le_i, gt_i, ge_i, ne_i, eq_i, int_i, min2_i, max2_i, short2, short3, short4, ap_tupS, outI_rt, outP_rt, go_s, k1, k2, k3]
theorem holds : ∀ ns : List Int, ns.length ≤ 63 → ∃ e', m_law (.s ns :: List.replicate 2 .u) = some (.rt (.bool true), e') := by
  intro ns hn
  obtain ⟨ds, hd, ok⟩ := v_hand ns hn
  have hc : clS (runS 3 m__law_hand) 0 [.s ns, .u, .u] = some (ds, [.s ns, .u, .u]) := by
    show (match runS 3 m__law_hand ns with
      | some d => some (d, [Sl.s ns, .u, .u])
      | none => none) = _
    rw [hd]
  have f1 := v_fb (l := 5) (u := 3) (d := 5) (by omega) (by omega) (by omega) (by omega) (by omega) (by omega)
  have f2 := v_fb (l := 3) (u := 5) (d := 3) (by omega) (by omega) (by omega) (by omega) (by omega) (by omega)
  have f3 := v_even_word (M := 5) (O := 2) (by omega) (by omega) (by omega) (by omega)
  rw [pin1] at f1
  rw [pin2] at f2
  rw [pin3] at f3
  obtain ⟨e', q1, q2⟩ := foF_all (g := gNm 2) (f := tuB) (I := tuI ns) (DL.upTo 0 5) [.s ns, .o (.list ds), .u] ⟨_, _, rfl, ok⟩ fun d _ e h => turn ns d e h
  have hfo : foS (rngI rng1D (aCons (rt (.int 5)) (aNil))) (gNm 2) tuB [.s ns, .o (.list ds), .u] = some (.nx, e') := by
    have hi : rngI rng1D (aCons (rt (.int 5)) (aNil)) [.s ns, .o (.list ds), .u] = some (DL.upTo 0 5, [.s ns, .o (.list ds), .u]) := rfl
    unfold foS
    rw [hi]
    exact q1
  have e0 : (Sl.s ns :: List.replicate 2 Sl.u) = [.s ns, .u, .u] := rfl
  unfold tuB at hfo
  refine ⟨e', ?_⟩
  rw [e0]
  unfold m_law
  simp only [ap_seqS, ap_ifS, ap_tNo, ap_tAn, ap_tOr, ap_tv, ap_vAn, ap_vNo, ap_cl, ap_clI, ap_cb, ap_aCons, ap_aNil, ap_nm, gv_s, gv_0, go_0, Option.map_some, Option.bind_some, ap_rt, ap_bd, ap_lf, ap_fr, ap_b2, ap_u1, List.length_cons, List.length_nil, Nat.zero_add, Nat.reduceAdd, if_true, ap_asB, Bool.not_true, Bool.not_false, Bool.false_eq_true, if_false, ap_nxS, oc_nx, oc_rt, ap_drp, ap_asgS, ap_retS, ap_parS, ap_mV, ap_mNil, setAll_cons, setAll_nil, List.set_cons_succ, List.set_cons_zero, add_i, sub_i, lt_i, le_i, gt_i, ge_i, ne_i, eq_i, int_i, min2_i, max2_i, short2, short3, short4, ap_tupS, outI_rt, outP_rt, ap_asgO, hc, f1, f2, f3, is_pin, hfo]
end Lw

namespace Lw
open PySem PySem.Spec PyProof.Rows L2 DL
set_option maxHeartbeats 4000000 in
theorem all_mk {l : PySem.W.OpenLaw} {w : World} {K : PySem.W.Frag} {h : Heap} {mg : Str → Option Value} {fa : Addr} (X : K.In h) (G : h.Ns mainGlobals mg) (hfa : mg "law" = some (.ref fa))
    {f0 : Addr} {od0 an0 : Option Addr} {sl0 : Array (Option Value)} {oc0 kV0 dc0 pm0 cd0 ct0 : Value}
    (a0 : PySem.W.nsIn K mainGlobals "is_integer" = some (some (.ref f0))) (l0 : K.lookup f0 = some ⟨oc0, od0, .func (PySem.W.fnOf "is_integer" "is_integer" (defArgs s_is_integer) (defBody s_is_integer) (defScope s_is_integer) .none kV0 dc0 pm0 an0 cd0 ct0), sl0⟩) (c0 : PySem.W.codeIn K cd0 "is_integer" = true) (k0 : PySem.W.keepIn K (.ref f0) = true)
    {f1 : Addr} {od1 an1 : Option Addr} {sl1 : Array (Option Value)} {oc1 kV1 dc1 pm1 cd1 ct1 : Value}
    (a1 : PySem.W.nsIn K mainGlobals "is_within" = some (some (.ref f1))) (l1 : K.lookup f1 = some ⟨oc1, od1, .func (PySem.W.fnOf "is_within" "is_within" (defArgs s_is_within) (defBody s_is_within) (defScope s_is_within) .none kV1 dc1 pm1 an1 cd1 ct1), sl1⟩) (c1 : PySem.W.codeIn K cd1 "is_within" = true) (k1 : PySem.W.keepIn K (.ref f1) = true)
    {f2 : Addr} {od2 an2 : Option Addr} {sl2 : Array (Option Value)} {oc2 kV2 dc2 pm2 cd2 ct2 : Value}
    (a2 : PySem.W.nsIn K mainGlobals "is_tuple_of" = some (some (.ref f2))) (l2 : K.lookup f2 = some ⟨oc2, od2, .func (PySem.W.fnOf "is_tuple_of" "is_tuple_of" (defArgs s_is_tuple_of) (defBody s_is_tuple_of) (defScope s_is_tuple_of) .none kV2 dc2 pm2 an2 cd2 ct2), sl2⟩) (c2 : PySem.W.codeIn K cd2 "is_tuple_of" = true) (k2 : PySem.W.keepIn K (.ref f2) = true)
    {f3 : Addr} {od3 an3 : Option Addr} {sl3 : Array (Option Value)} {oc3 kV3 dc3 pm3 cd3 ct3 : Value}
    (a3 : PySem.W.nsIn K mainGlobals "common_part" = some (some (.ref f3))) (l3 : K.lookup f3 = some ⟨oc3, od3, .func (PySem.W.fnOf "common_part" "common_part" (defArgs s_common_part) (defBody s_common_part) (defScope s_common_part) .none kV3 dc3 pm3 an3 cd3 ct3), sl3⟩) (c3 : PySem.W.codeIn K cd3 "common_part" = true) (k3 : PySem.W.keepIn K (.ref f3) = true)
    {f4 : Addr} {od4 an4 : Option Addr} {sl4 : Array (Option Value)} {oc4 kV4 dc4 pm4 cd4 ct4 : Value}
    (a4 : PySem.W.nsIn K mainGlobals "is_number" = some (some (.ref f4))) (l4 : K.lookup f4 = some ⟨oc4, od4, .func (PySem.W.fnOf "is_number" "is_number" (defArgs s_is_number) (defBody s_is_number) (defScope s_is_number) .none kV4 dc4 pm4 an4 cd4 ct4), sl4⟩) (c4 : PySem.W.codeIn K cd4 "is_number" = true) (k4 : PySem.W.keepIn K (.ref f4) = true)
    {f5 : Addr} {od5 an5 : Option Addr} {sl5 : Array (Option Value)} {oc5 kV5 dc5 pm5 cd5 ct5 : Value}
    (a5 : PySem.W.nsIn K mainGlobals "check_number" = some (some (.ref f5))) (l5 : K.lookup f5 = some ⟨oc5, od5, .func (PySem.W.fnOf "check_number" "check_number" (defArgs s_check_number) (defBody s_check_number) (defScope s_check_number) .none kV5 dc5 pm5 an5 cd5 ct5), sl5⟩) (c5 : PySem.W.codeIn K cd5 "check_number" = true) (k5 : PySem.W.keepIn K (.ref f5) = true)
    {f6 : Addr} {od6 an6 : Option Addr} {sl6 : Array (Option Value)} {oc6 kV6 dc6 pm6 cd6 ct6 : Value}
    (a6 : PySem.W.nsIn K mainGlobals "rest_of" = some (some (.ref f6))) (l6 : K.lookup f6 = some ⟨oc6, od6, .func (PySem.W.fnOf "rest_of" "rest_of" (defArgs s_rest_of) (defBody s_rest_of) (defScope s_rest_of) .none kV6 dc6 pm6 an6 cd6 ct6), sl6⟩) (c6 : PySem.W.codeIn K cd6 "rest_of" = true) (k6 : PySem.W.keepIn K (.ref f6) = true)
    {f7 : Addr} {od7 an7 : Option Addr} {sl7 : Array (Option Value)} {oc7 kV7 dc7 pm7 cd7 ct7 : Value}
    (a7 : PySem.W.nsIn K mainGlobals "is_floor" = some (some (.ref f7))) (l7 : K.lookup f7 = some ⟨oc7, od7, .func (PySem.W.fnOf "is_floor" "is_floor" (defArgs s_is_floor) (defBody s_is_floor) (defScope s_is_floor) .none kV7 dc7 pm7 an7 cd7 ct7), sl7⟩) (c7 : PySem.W.codeIn K cd7 "is_floor" = true) (k7 : PySem.W.keepIn K (.ref f7) = true)
    {f8 : Addr} {od8 an8 : Option Addr} {sl8 : Array (Option Value)} {oc8 kV8 dc8 pm8 cd8 ct8 : Value}
    (a8 : PySem.W.nsIn K mainGlobals "check_floor" = some (some (.ref f8))) (l8 : K.lookup f8 = some ⟨oc8, od8, .func (PySem.W.fnOf "check_floor" "check_floor" (defArgs s_check_floor) (defBody s_check_floor) (defScope s_check_floor) .none kV8 dc8 pm8 an8 cd8 ct8), sl8⟩) (c8 : PySem.W.codeIn K cd8 "check_floor" = true) (k8 : PySem.W.keepIn K (.ref f8) = true)
    {f9 : Addr} {od9 an9 : Option Addr} {sl9 : Array (Option Value)} {oc9 kV9 dc9 pm9 cd9 ct9 : Value}
    (a9 : PySem.W.nsIn K mainGlobals "raw_at" = some (some (.ref f9))) (l9 : K.lookup f9 = some ⟨oc9, od9, .func (PySem.W.fnOf "raw_at" "raw_at" (defArgs s_raw_at) (defBody s_raw_at) (defScope s_raw_at) .none kV9 dc9 pm9 an9 cd9 ct9), sl9⟩) (c9 : PySem.W.codeIn K cd9 "raw_at" = true) (k9 : PySem.W.keepIn K (.ref f9) = true)
    {f10 : Addr} {od10 an10 : Option Addr} {sl10 : Array (Option Value)} {oc10 kV10 dc10 pm10 cd10 ct10 : Value}
    (a10 : PySem.W.nsIn K mainGlobals "floor_at" = some (some (.ref f10))) (l10 : K.lookup f10 = some ⟨oc10, od10, .func (PySem.W.fnOf "floor_at" "floor_at" (defArgs s_floor_at) (defBody s_floor_at) (defScope s_floor_at) .none kV10 dc10 pm10 an10 cd10 ct10), sl10⟩) (c10 : PySem.W.codeIn K cd10 "floor_at" = true) (k10 : PySem.W.keepIn K (.ref f10) = true)
    {f11 : Addr} {od11 an11 : Option Addr} {sl11 : Array (Option Value)} {oc11 kV11 dc11 pm11 cd11 ct11 : Value}
    (a11 : PySem.W.nsIn K mainGlobals "raw_has" = some (some (.ref f11))) (l11 : K.lookup f11 = some ⟨oc11, od11, .func (PySem.W.fnOf "raw_has" "raw_has" (defArgs s_raw_has) (defBody s_raw_has) (defScope s_raw_has) .none kV11 dc11 pm11 an11 cd11 ct11), sl11⟩) (c11 : PySem.W.codeIn K cd11 "raw_has" = true) (k11 : PySem.W.keepIn K (.ref f11) = true)
    {f12 : Addr} {od12 an12 : Option Addr} {sl12 : Array (Option Value)} {oc12 kV12 dc12 pm12 cd12 ct12 : Value}
    (a12 : PySem.W.nsIn K mainGlobals "floor_has" = some (some (.ref f12))) (l12 : K.lookup f12 = some ⟨oc12, od12, .func (PySem.W.fnOf "floor_has" "floor_has" (defArgs s_floor_has) (defBody s_floor_has) (defScope s_floor_has) .none kV12 dc12 pm12 an12 cd12 ct12), sl12⟩) (c12 : PySem.W.codeIn K cd12 "floor_has" = true) (k12 : PySem.W.keepIn K (.ref f12) = true)
    {f13 : Addr} {od13 an13 : Option Addr} {sl13 : Array (Option Value)} {oc13 kV13 dc13 pm13 cd13 ct13 : Value}
    (a13 : PySem.W.nsIn K mainGlobals "steps_of" = some (some (.ref f13))) (l13 : K.lookup f13 = some ⟨oc13, od13, .func (PySem.W.fnOf "steps_of" "steps_of" (defArgs s_steps_of) (defBody s_steps_of) (defScope s_steps_of) .none kV13 dc13 pm13 an13 cd13 ct13), sl13⟩) (c13 : PySem.W.codeIn K cd13 "steps_of" = true) (k13 : PySem.W.keepIn K (.ref f13) = true)
    {f14 : Addr} {od14 an14 : Option Addr} {sl14 : Array (Option Value)} {oc14 kV14 dc14 pm14 cd14 ct14 : Value}
    (a14 : PySem.W.nsIn K mainGlobals "floor_sum" = some (some (.ref f14))) (l14 : K.lookup f14 = some ⟨oc14, od14, .func (PySem.W.fnOf "floor_sum" "floor_sum" (defArgs s_floor_sum) (defBody s_floor_sum) (defScope s_floor_sum) .none kV14 dc14 pm14 an14 cd14 ct14), sl14⟩) (c14 : PySem.W.codeIn K cd14 "floor_sum" = true) (k14 : PySem.W.keepIn K (.ref f14) = true)
    {f15 : Addr} {od15 an15 : Option Addr} {sl15 : Array (Option Value)} {oc15 kV15 dc15 pm15 cd15 ct15 : Value}
    (a15 : PySem.W.nsIn K mainGlobals "even_word" = some (some (.ref f15))) (l15 : K.lookup f15 = some ⟨oc15, od15, .func (PySem.W.fnOf "even_word" "even_word" (defArgs s_even_word) (defBody s_even_word) (defScope s_even_word) .none kV15 dc15 pm15 an15 cd15 ct15), sl15⟩) (c15 : PySem.W.codeIn K cd15 "even_word" = true) (k15 : PySem.W.keepIn K (.ref f15) = true)
    {f16 : Addr} {od16 an16 : Option Addr} {sl16 : Array (Option Value)} {oc16 kV16 dc16 pm16 cd16 ct16 : Value}
    (a16 : PySem.W.nsIn K mainGlobals "counts_of" = some (some (.ref f16))) (l16 : K.lookup f16 = some ⟨oc16, od16, .func (PySem.W.fnOf "counts_of" "counts_of" (defArgs s_counts_of) (defBody s_counts_of) (defScope s_counts_of) .none kV16 dc16 pm16 an16 cd16 ct16), sl16⟩) (c16 : PySem.W.codeIn K cd16 "counts_of" = true) (k16 : PySem.W.keepIn K (.ref f16) = true)
    {f17 : Addr} {od17 an17 : Option Addr} {sl17 : Array (Option Value)} {oc17 kV17 dc17 pm17 cd17 ct17 : Value}
    (a17 : PySem.W.nsIn K mainGlobals "is_even" = some (some (.ref f17))) (l17 : K.lookup f17 = some ⟨oc17, od17, .func (PySem.W.fnOf "is_even" "is_even" (defArgs s_is_even) (defBody s_is_even) (defScope s_is_even) .none kV17 dc17 pm17 an17 cd17 ct17), sl17⟩) (c17 : PySem.W.codeIn K cd17 "is_even" = true) (k17 : PySem.W.keepIn K (.ref f17) = true)
    {f18 : Addr} {od18 an18 : Option Addr} {sl18 : Array (Option Value)} {oc18 kV18 dc18 pm18 cd18 ct18 : Value}
    (a18 : PySem.W.nsIn K mainGlobals "floor_bill" = some (some (.ref f18))) (l18 : K.lookup f18 = some ⟨oc18, od18, .func (PySem.W.fnOf "floor_bill" "floor_bill" (defArgs s_floor_bill) (defBody s_floor_bill) (defScope s_floor_bill) .none kV18 dc18 pm18 an18 cd18 ct18), sl18⟩) (c18 : PySem.W.codeIn K cd18 "floor_bill" = true) (k18 : PySem.W.keepIn K (.ref f18) = true)
    {f19 : Addr} {od19 an19 : Option Addr} {sl19 : Array (Option Value)} {oc19 kV19 dc19 pm19 cd19 ct19 : Value}
    (a19 : PySem.W.nsIn K mainGlobals "_law_hand" = some (some (.ref f19))) (l19 : K.lookup f19 = some ⟨oc19, od19, .func (PySem.W.fnOf "_law_hand" "_law_hand" (defArgs s__law_hand) (defBody s__law_hand) (defScope s__law_hand) .none kV19 dc19 pm19 an19 cd19 ct19), sl19⟩) (c19 : PySem.W.codeIn K cd19 "_law_hand" = true) (k19 : PySem.W.keepIn K (.ref f19) = true)
    {f20 : Addr} {od20 an20 : Option Addr} {sl20 : Array (Option Value)} {oc20 kV20 dc20 pm20 cd20 ct20 : Value}
    (a20 : PySem.W.nsIn K mainGlobals "_law_draw" = some (some (.ref f20))) (l20 : K.lookup f20 = some ⟨oc20, od20, .func (PySem.W.fnOf "_law_draw" "_law_draw" (defArgs s__law_draw) (defBody s__law_draw) (defScope s__law_draw) .none kV20 dc20 pm20 an20 cd20 ct20), sl20⟩) (c20 : PySem.W.codeIn K cd20 "_law_draw" = true) (k20 : PySem.W.keepIn K (.ref f20) = true)
    {f21 : Addr} {od21 an21 : Option Addr} {sl21 : Array (Option Value)} {oc21 kV21 dc21 pm21 cd21 ct21 : Value}
    (a21 : PySem.W.nsIn K mainGlobals "_law_any" = some (some (.ref f21))) (l21 : K.lookup f21 = some ⟨oc21, od21, .func (PySem.W.fnOf "_law_any" "_law_any" (defArgs s__law_any) (defBody s__law_any) (defScope s__law_any) .none kV21 dc21 pm21 an21 cd21 ct21), sl21⟩) (c21 : PySem.W.codeIn K cd21 "_law_any" = true) (k21 : PySem.W.keepIn K (.ref f21) = true)
    {f22 : Addr} {od22 an22 : Option Addr} {sl22 : Array (Option Value)} {oc22 kV22 dc22 pm22 cd22 ct22 : Value}
    (a22 : PySem.W.nsIn K mainGlobals "_law_is" = some (some (.ref f22))) (l22 : K.lookup f22 = some ⟨oc22, od22, .func (PySem.W.fnOf "_law_is" "_law_is" (defArgs s__law_is) (defBody s__law_is) (defScope s__law_is) .none kV22 dc22 pm22 an22 cd22 ct22), sl22⟩) (c22 : PySem.W.codeIn K cd22 "_law_is" = true) (k22 : PySem.W.keepIn K (.ref f22) = true)
    {f23 : Addr} {od23 an23 : Option Addr} {sl23 : Array (Option Value)} {oc23 kV23 dc23 pm23 cd23 ct23 : Value}
    (a23 : PySem.W.nsIn K mainGlobals "_law_common" = some (some (.ref f23))) (l23 : K.lookup f23 = some ⟨oc23, od23, .func (PySem.W.fnOf "_law_common" "_law_common" (defArgs s__law_common) (defBody s__law_common) (defScope s__law_common) .none kV23 dc23 pm23 an23 cd23 ct23), sl23⟩) (c23 : PySem.W.codeIn K cd23 "_law_common" = true) (k23 : PySem.W.keepIn K (.ref f23) = true)
    {f24 : Addr} {od24 an24 : Option Addr} {sl24 : Array (Option Value)} {oc24 kV24 dc24 pm24 cd24 ct24 : Value}
    (a24 : PySem.W.nsIn K mainGlobals "_law_great" = some (some (.ref f24))) (l24 : K.lookup f24 = some ⟨oc24, od24, .func (PySem.W.fnOf "_law_great" "_law_great" (defArgs s__law_great) (defBody s__law_great) (defScope s__law_great) .none kV24 dc24 pm24 an24 cd24 ct24), sl24⟩) (c24 : PySem.W.codeIn K cd24 "_law_great" = true) (k24 : PySem.W.keepIn K (.ref f24) = true)
    {f25 : Addr} {od25 an25 : Option Addr} {sl25 : Array (Option Value)} {oc25 kV25 dc25 pm25 cd25 ct25 : Value}
    (a25 : PySem.W.nsIn K mainGlobals "_law_are_bills_right" = some (some (.ref f25))) (l25 : K.lookup f25 = some ⟨oc25, od25, .func (PySem.W.fnOf "_law_are_bills_right" "_law_are_bills_right" (defArgs s__law_are_bills_right) (defBody s__law_are_bills_right) (defScope s__law_are_bills_right) .none kV25 dc25 pm25 an25 cd25 ct25), sl25⟩) (c25 : PySem.W.codeIn K cd25 "_law_are_bills_right" = true) (k25 : PySem.W.keepIn K (.ref f25) = true)
    {f26 : Addr} {od26 an26 : Option Addr} {sl26 : Array (Option Value)} {oc26 kV26 dc26 pm26 cd26 ct26 : Value}
    (a26 : PySem.W.nsIn K mainGlobals "_law_are_floors_right" = some (some (.ref f26))) (l26 : K.lookup f26 = some ⟨oc26, od26, .func (PySem.W.fnOf "_law_are_floors_right" "_law_are_floors_right" (defArgs s__law_are_floors_right) (defBody s__law_are_floors_right) (defScope s__law_are_floors_right) .none kV26 dc26 pm26 an26 cd26 ct26), sl26⟩) (c26 : PySem.W.codeIn K cd26 "_law_are_floors_right" = true) (k26 : PySem.W.keepIn K (.ref f26) = true)
    {f27 : Addr} {od27 an27 : Option Addr} {sl27 : Array (Option Value)} {oc27 kV27 dc27 pm27 cd27 ct27 : Value}
    (a27 : PySem.W.nsIn K mainGlobals "_law_are_words_right" = some (some (.ref f27))) (l27 : K.lookup f27 = some ⟨oc27, od27, .func (PySem.W.fnOf "_law_are_words_right" "_law_are_words_right" (defArgs s__law_are_words_right) (defBody s__law_are_words_right) (defScope s__law_are_words_right) .none kV27 dc27 pm27 an27 cd27 ct27), sl27⟩) (c27 : PySem.W.codeIn K cd27 "_law_are_words_right" = true) (k27 : PySem.W.keepIn K (.ref f27) = true)
    {f28 : Addr} {od28 an28 : Option Addr} {sl28 : Array (Option Value)} {oc28 kV28 dc28 pm28 cd28 ct28 : Value}
    (a28 : PySem.W.nsIn K mainGlobals "law" = some (some (.ref f28))) (l28 : K.lookup f28 = some ⟨oc28, od28, .func (PySem.W.fnOf "law" "law" (defArgs s_law) (defBody s_law) (defScope s_law) .none kV28 dc28 pm28 an28 cd28 ct28), sl28⟩) (c28 : PySem.W.codeIn K cd28 "law" = true) (k28 : PySem.W.keepIn K (.ref f28) = true)
    (z0 : PySem.W.nsIn K mainGlobals "abs" = some none)
    (z1 : PySem.W.nsIn K mainGlobals "all" = some none)
    (z2 : PySem.W.nsIn K mainGlobals "bool" = some none)
    (z3 : PySem.W.nsIn K mainGlobals "int" = some none)
    (z4 : PySem.W.nsIn K mainGlobals "isinstance" = some none)
    (z5 : PySem.W.nsIn K mainGlobals "len" = some none)
    (z6 : PySem.W.nsIn K mainGlobals "max" = some none)
    (z7 : PySem.W.nsIn K mainGlobals "min" = some none)
    (z8 : PySem.W.nsIn K mainGlobals "range" = some none)
    (z9 : PySem.W.nsIn K mainGlobals "repr" = some none)
    (z10 : PySem.W.nsIn K mainGlobals "str" = some none)
    (z11 : PySem.W.nsIn K mainGlobals "sum" = some none)
    (z12 : PySem.W.nsIn K mainGlobals "tuple" = some none)
    {t0 : Tok} (v0 : PySem.W.nsIn K mainGlobals "MOST_FLOOR_bills" = some (some (.int 1000000000 t0)))
    {t1 : Tok} (v1 : PySem.W.nsIn K mainGlobals "MOST_FLOOR_floors" = some (some (.int 40 t1)))
    {t2 : Tok} (v2 : PySem.W.nsIn K mainGlobals "MOST_NUMBER" = some (some (.int 10000000000000000000000000000000000000000 t2)))
    {t3 : Tok} (v3 : PySem.W.nsIn K mainGlobals "MOST_SUMMED_FLOORS" = some (some (.int 1000000000 t3)))
    {t4 : Tok} (v4 : PySem.W.nsIn K mainGlobals "MOST_WORD" = some (some (.int 60 t4)))
    : ∃ fd : FuncData, (∀ (s : Shared) (v : Value), BindsTo s fd ⟨[v], []⟩ [("script", v)]) ∧ ∀ base : Heap, K.In base → base.Ns mainGlobals mg → FnG l.prog w K mg base 7 fa fd ["script"] (spL K) := by
  have e := hfa.symm.trans (PySem.W.mg_of X G a28)
  cases e
  let T : Env K mg := {
    a_is_integer := f0
    fd_is_integer := _
    F_is_integer := fun_mk (st := s_is_integer) l0 c0 k0
    b_is_integer := (fun_mk (st := s_is_integer) l0 c0 k0).binds (ps := ["thing"]) fun _ _ _ _ _ _ us hl => match us, hl with | [_], _ => rfl
    g_is_integer := PySem.W.mg_of X G a0
    a_is_within := f1
    fd_is_within := _
    F_is_within := fun_mk (st := s_is_within) l1 c1 k1
    b_is_within := (fun_mk (st := s_is_within) l1 c1 k1).binds (ps := ["thing", "least", "most"]) fun _ _ _ _ _ _ us hl => match us, hl with | [_, _, _], _ => rfl
    g_is_within := PySem.W.mg_of X G a1
    a_is_tuple_of := f2
    fd_is_tuple_of := _
    F_is_tuple_of := fun_mk (st := s_is_tuple_of) l2 c2 k2
    b_is_tuple_of := (fun_mk (st := s_is_tuple_of) l2 c2 k2).binds (ps := ["thing", "size"]) fun _ _ _ _ _ _ us hl => match us, hl with | [_, _], _ => rfl
    g_is_tuple_of := PySem.W.mg_of X G a2
    a_common_part := f3
    fd_common_part := _
    F_common_part := fun_mk (st := s_common_part) l3 c3 k3
    b_common_part := (fun_mk (st := s_common_part) l3 c3 k3).binds (ps := ["one", "other"]) fun _ _ _ _ _ _ us hl => match us, hl with | [_, _], _ => rfl
    g_common_part := PySem.W.mg_of X G a3
    a_is_number := f4
    fd_is_number := _
    F_is_number := fun_mk (st := s_is_number) l4 c4 k4
    b_is_number := (fun_mk (st := s_is_number) l4 c4 k4).binds (ps := ["thing"]) fun _ _ _ _ _ _ us hl => match us, hl with | [_], _ => rfl
    g_is_number := PySem.W.mg_of X G a4
    a_check_number := f5
    fd_check_number := _
    F_check_number := fun_mk (st := s_check_number) l5 c5 k5
    b_check_number := (fun_mk (st := s_check_number) l5 c5 k5).binds (ps := ["number"]) fun _ _ _ _ _ _ us hl => match us, hl with | [_], _ => rfl
    g_check_number := PySem.W.mg_of X G a5
    a_rest_of := f6
    fd_rest_of := _
    F_rest_of := fun_mk (st := s_rest_of) l6 c6 k6
    b_rest_of := (fun_mk (st := s_rest_of) l6 c6 k6).binds (ps := ["number", "part"]) fun _ _ _ _ _ _ us hl => match us, hl with | [_, _], _ => rfl
    g_rest_of := PySem.W.mg_of X G a6
    a_is_floor := f7
    fd_is_floor := _
    F_is_floor := fun_mk (st := s_is_floor) l7 c7 k7
    b_is_floor := (fun_mk (st := s_is_floor) l7 c7 k7).binds (ps := ["thing"]) fun _ _ _ _ _ _ us hl => match us, hl with | [_], _ => rfl
    g_is_floor := PySem.W.mg_of X G a7
    a_check_floor := f8
    fd_check_floor := _
    F_check_floor := fun_mk (st := s_check_floor) l8 c8 k8
    b_check_floor := (fun_mk (st := s_check_floor) l8 c8 k8).binds (ps := ["floor"]) fun _ _ _ _ _ _ us hl => match us, hl with | [_], _ => rfl
    g_check_floor := PySem.W.mg_of X G a8
    a_raw_at := f9
    fd_raw_at := _
    F_raw_at := fun_mk (st := s_raw_at) l9 c9 k9
    b_raw_at := (fun_mk (st := s_raw_at) l9 c9 k9).binds (ps := ["floor", "number"]) fun _ _ _ _ _ _ us hl => match us, hl with | [_, _], _ => rfl
    g_raw_at := PySem.W.mg_of X G a9
    a_floor_at := f10
    fd_floor_at := _
    F_floor_at := fun_mk (st := s_floor_at) l10 c10 k10
    b_floor_at := (fun_mk (st := s_floor_at) l10 c10 k10).binds (ps := ["floor", "number"]) fun _ _ _ _ _ _ us hl => match us, hl with | [_, _], _ => rfl
    g_floor_at := PySem.W.mg_of X G a10
    a_raw_has := f11
    fd_raw_has := _
    F_raw_has := fun_mk (st := s_raw_has) l11 c11 k11
    b_raw_has := (fun_mk (st := s_raw_has) l11 c11 k11).binds (ps := ["floor", "number"]) fun _ _ _ _ _ _ us hl => match us, hl with | [_, _], _ => rfl
    g_raw_has := PySem.W.mg_of X G a11
    a_floor_has := f12
    fd_floor_has := _
    F_floor_has := fun_mk (st := s_floor_has) l12 c12 k12
    b_floor_has := (fun_mk (st := s_floor_has) l12 c12 k12).binds (ps := ["floor", "number"]) fun _ _ _ _ _ _ us hl => match us, hl with | [_, _], _ => rfl
    g_floor_has := PySem.W.mg_of X G a12
    a_steps_of := f13
    fd_steps_of := _
    F_steps_of := fun_mk (st := s_steps_of) l13 c13 k13
    b_steps_of := (fun_mk (st := s_steps_of) l13 c13 k13).binds (ps := ["floor"]) fun _ _ _ _ _ _ us hl => match us, hl with | [_], _ => rfl
    g_steps_of := PySem.W.mg_of X G a13
    a_floor_sum := f14
    fd_floor_sum := _
    F_floor_sum := fun_mk (st := s_floor_sum) l14 c14 k14
    b_floor_sum := (fun_mk (st := s_floor_sum) l14 c14 k14).binds (ps := ["many", "floor"]) fun _ _ _ _ _ _ us hl => match us, hl with | [_, _], _ => rfl
    g_floor_sum := PySem.W.mg_of X G a14
    a_even_word := f15
    fd_even_word := _
    F_even_word := fun_mk (st := s_even_word) l15 c15 k15
    b_even_word := (fun_mk (st := s_even_word) l15 c15 k15).binds (ps := ["many", "ones"]) fun _ _ _ _ _ _ us hl => match us, hl with | [_, _], _ => rfl
    g_even_word := PySem.W.mg_of X G a15
    a_counts_of := f16
    fd_counts_of := _
    F_counts_of := fun_mk (st := s_counts_of) l16 c16 k16
    b_counts_of := (fun_mk (st := s_counts_of) l16 c16 k16).binds (ps := ["word", "size"]) fun _ _ _ _ _ _ us hl => match us, hl with | [_, _], _ => rfl
    g_counts_of := PySem.W.mg_of X G a16
    a_is_even := f17
    fd_is_even := _
    F_is_even := fun_mk (st := s_is_even) l17 c17 k17
    b_is_even := (fun_mk (st := s_is_even) l17 c17 k17).binds (ps := ["thing"]) fun _ _ _ _ _ _ us hl => match us, hl with | [_], _ => rfl
    g_is_even := PySem.W.mg_of X G a17
    a_floor_bill := f18
    fd_floor_bill := _
    F_floor_bill := fun_mk (st := s_floor_bill) l18 c18 k18
    b_floor_bill := (fun_mk (st := s_floor_bill) l18 c18 k18).binds (ps := ["many", "top", "bottom"]) fun _ _ _ _ _ _ us hl => match us, hl with | [_, _, _], _ => rfl
    g_floor_bill := PySem.W.mg_of X G a18
    a__law_hand := f19
    fd__law_hand := _
    F__law_hand := fun_mk (st := s__law_hand) l19 c19 k19
    b__law_hand := (fun_mk (st := s__law_hand) l19 c19 k19).binds (ps := ["script"]) fun _ _ _ _ _ _ us hl => match us, hl with | [_], _ => rfl
    g__law_hand := PySem.W.mg_of X G a19
    a__law_draw := f20
    fd__law_draw := _
    F__law_draw := fun_mk (st := s__law_draw) l20 c20 k20
    b__law_draw := (fun_mk (st := s__law_draw) l20 c20 k20).binds (ps := ["hand", "many"]) fun _ _ _ _ _ _ us hl => match us, hl with | [_, _], _ => rfl
    g__law_draw := PySem.W.mg_of X G a20
    a__law_any := f21
    fd__law_any := _
    F__law_any := fun_mk (st := s__law_any) l21 c21 k21
    b__law_any := (fun_mk (st := s__law_any) l21 c21 k21).binds (ps := ["hand", "some"]) fun _ _ _ _ _ _ us hl => match us, hl with | [_, _], _ => rfl
    g__law_any := PySem.W.mg_of X G a21
    a__law_is := f22
    fd__law_is := _
    F__law_is := fun_mk (st := s__law_is) l22 c22 k22
    b__law_is := (fun_mk (st := s__law_is) l22 c22 k22).binds (ps := ["told", "due"]) fun _ _ _ _ _ _ us hl => match us, hl with | [_, _], _ => rfl
    g__law_is := PySem.W.mg_of X G a22
    a__law_common := f23
    fd__law_common := _
    F__law_common := fun_mk (st := s__law_common) l23 c23 k23
    b__law_common := (fun_mk (st := s__law_common) l23 c23 k23).binds (ps := ["one", "other"]) fun _ _ _ _ _ _ us hl => match us, hl with | [_, _], _ => rfl
    g__law_common := PySem.W.mg_of X G a23
    a__law_great := f24
    fd__law_great := _
    F__law_great := fun_mk (st := s__law_great) l24 c24 k24
    b__law_great := (fun_mk (st := s__law_great) l24 c24 k24).binds (ps := ["hand"]) fun _ _ _ _ _ _ us hl => match us, hl with | [_], _ => rfl
    g__law_great := PySem.W.mg_of X G a24
    a__law_are_bills_right := f25
    fd__law_are_bills_right := _
    F__law_are_bills_right := fun_mk (st := s__law_are_bills_right) l25 c25 k25
    b__law_are_bills_right := (fun_mk (st := s__law_are_bills_right) l25 c25 k25).binds (ps := ["hand"]) fun _ _ _ _ _ _ us hl => match us, hl with | [_], _ => rfl
    g__law_are_bills_right := PySem.W.mg_of X G a25
    a__law_are_floors_right := f26
    fd__law_are_floors_right := _
    F__law_are_floors_right := fun_mk (st := s__law_are_floors_right) l26 c26 k26
    b__law_are_floors_right := (fun_mk (st := s__law_are_floors_right) l26 c26 k26).binds (ps := ["hand"]) fun _ _ _ _ _ _ us hl => match us, hl with | [_], _ => rfl
    g__law_are_floors_right := PySem.W.mg_of X G a26
    a__law_are_words_right := f27
    fd__law_are_words_right := _
    F__law_are_words_right := fun_mk (st := s__law_are_words_right) l27 c27 k27
    b__law_are_words_right := (fun_mk (st := s__law_are_words_right) l27 c27 k27).binds (ps := ["hand"]) fun _ _ _ _ _ _ us hl => match us, hl with | [_], _ => rfl
    g__law_are_words_right := PySem.W.mg_of X G a27
    a_law := fa
    fd_law := _
    F_law := fun_mk (st := s_law) l28 c28 k28
    b_law := (fun_mk (st := s_law) l28 c28 k28).binds (ps := ["script"]) fun _ _ _ _ _ _ us hl => match us, hl with | [_], _ => rfl
    g_law := PySem.W.mg_of X G a28
    z_abs := PySem.W.mg_none_of X G z0
    z_all := PySem.W.mg_none_of X G z1
    z_bool := PySem.W.mg_none_of X G z2
    z_int := PySem.W.mg_none_of X G z3
    z_isinstance := PySem.W.mg_none_of X G z4
    z_len := PySem.W.mg_none_of X G z5
    z_max := PySem.W.mg_none_of X G z6
    z_min := PySem.W.mg_none_of X G z7
    z_range := PySem.W.mg_none_of X G z8
    z_repr := PySem.W.mg_none_of X G z9
    z_str := PySem.W.mg_none_of X G z10
    z_sum := PySem.W.mg_none_of X G z11
    z_tuple := PySem.W.mg_none_of X G z12
    c_MOST_FLOOR_bills := ⟨t0, PySem.W.mg_of X G v0⟩
    c_MOST_FLOOR_floors := ⟨t1, PySem.W.mg_of X G v1⟩
    c_MOST_NUMBER := ⟨t2, PySem.W.mg_of X G v2⟩
    c_MOST_SUMMED_FLOORS := ⟨t3, PySem.W.mg_of X G v3⟩
    c_MOST_WORD := ⟨t4, PySem.W.mg_of X G v4⟩
  }
  exact ⟨_, fun s v => .of_eq rfl, fun base _ _ => ok_law T holds⟩
end Lw
open PySem PySem.W PyProof.Rows
set_option maxHeartbeats 0 in
theorem PySem.Challenge.cw_coverallrows_k08_whole_floors_by_turns_a_holds : PySem.Challenge.rw_coverallrows_k08_whole_floors_by_turns_a.Holds := by
  w_on; o_law; k_head; (case hw => w_witness2)
  k_fill
  refine DL.walk_ofG (l := PySem.Challenge.rw_coverallrows_k08_whole_floors_by_turns_a) (n := 63) (k := 7) (x := "script") rfl (by decide) rfl ⟨rfl, by decide, by decide⟩ (fun w h Y => PySem.W.kIn_of Y) ?F
  case F =>
    intro w mg fa h KX G hmg
    refine' Lw.all_mk KX G hmg ?a0 ?l0 ?c0 ?k0 ?a1 ?l1 ?c1 ?k1 ?a2 ?l2 ?c2 ?k2 ?a3 ?l3 ?c3 ?k3 ?a4 ?l4 ?c4 ?k4 ?a5 ?l5 ?c5 ?k5 ?a6 ?l6 ?c6 ?k6 ?a7 ?l7 ?c7 ?k7 ?a8 ?l8 ?c8 ?k8 ?a9 ?l9 ?c9 ?k9 ?a10 ?l10 ?c10 ?k10 ?a11 ?l11 ?c11 ?k11 ?a12 ?l12 ?c12 ?k12 ?a13 ?l13 ?c13 ?k13 ?a14 ?l14 ?c14 ?k14 ?a15 ?l15 ?c15 ?k15 ?a16 ?l16 ?c16 ?k16 ?a17 ?l17 ?c17 ?k17 ?a18 ?l18 ?c18 ?k18 ?a19 ?l19 ?c19 ?k19 ?a20 ?l20 ?c20 ?k20 ?a21 ?l21 ?c21 ?k21 ?a22 ?l22 ?c22 ?k22 ?a23 ?l23 ?c23 ?k23 ?a24 ?l24 ?c24 ?k24 ?a25 ?l25 ?c25 ?k25 ?a26 ?l26 ?c26 ?k26 ?a27 ?l27 ?c27 ?k27 ?a28 ?l28 ?c28 ?k28 ?z0 ?z1 ?z2 ?z3 ?z4 ?z5 ?z6 ?z7 ?z8 ?z9 ?z10 ?z11 ?z12 ?v0 ?v1 ?v2 ?v3 ?v4
    (case a0 => k_is); (case l0 => k_is); (case c0 => k_is); (case k0 => k_is); (case a1 => k_is); (case l1 => k_is); (case c1 => k_is); (case k1 => k_is)
    (case a2 => k_is); (case l2 => k_is); (case c2 => k_is); (case k2 => k_is); (case a3 => k_is); (case l3 => k_is); (case c3 => k_is); (case k3 => k_is)
    (case a4 => k_is); (case l4 => k_is); (case c4 => k_is); (case k4 => k_is); (case a5 => k_is); (case l5 => k_is); (case c5 => k_is); (case k5 => k_is)
    (case a6 => k_is); (case l6 => k_is); (case c6 => k_is); (case k6 => k_is); (case a7 => k_is); (case l7 => k_is); (case c7 => k_is); (case k7 => k_is)
    (case a8 => k_is); (case l8 => k_is); (case c8 => k_is); (case k8 => k_is); (case a9 => k_is); (case l9 => k_is); (case c9 => k_is); (case k9 => k_is)
    (case a10 => k_is); (case l10 => k_is); (case c10 => k_is); (case k10 => k_is); (case a11 => k_is); (case l11 => k_is); (case c11 => k_is); (case k11 => k_is)
    (case a12 => k_is); (case l12 => k_is); (case c12 => k_is); (case k12 => k_is); (case a13 => k_is); (case l13 => k_is); (case c13 => k_is); (case k13 => k_is)
    (case a14 => k_is); (case l14 => k_is); (case c14 => k_is); (case k14 => k_is); (case a15 => k_is); (case l15 => k_is); (case c15 => k_is); (case k15 => k_is)
    (case a16 => k_is); (case l16 => k_is); (case c16 => k_is); (case k16 => k_is); (case a17 => k_is); (case l17 => k_is); (case c17 => k_is); (case k17 => k_is)
    (case a18 => k_is); (case l18 => k_is); (case c18 => k_is); (case k18 => k_is); (case a19 => k_is); (case l19 => k_is); (case c19 => k_is); (case k19 => k_is)
    (case a20 => k_is); (case l20 => k_is); (case c20 => k_is); (case k20 => k_is); (case a21 => k_is); (case l21 => k_is); (case c21 => k_is); (case k21 => k_is)
    (case a22 => k_is); (case l22 => k_is); (case c22 => k_is); (case k22 => k_is); (case a23 => k_is); (case l23 => k_is); (case c23 => k_is); (case k23 => k_is)
    (case a24 => k_is); (case l24 => k_is); (case c24 => k_is); (case k24 => k_is); (case a25 => k_is); (case l25 => k_is); (case c25 => k_is); (case k25 => k_is)
    (case a26 => k_is); (case l26 => k_is); (case c26 => k_is); (case k26 => k_is); (case a27 => k_is); (case l27 => k_is); (case c27 => k_is); (case k27 => k_is)
    (case a28 => k_is); (case l28 => k_is); (case c28 => k_is); (case k28 => k_is); (case z0 => k_is); (case z1 => k_is); (case z2 => k_is); (case z3 => k_is)
    (case z4 => k_is); (case z5 => k_is); (case z6 => k_is); (case z7 => k_is); (case z8 => k_is); (case z9 => k_is); (case z10 => k_is); (case z11 => k_is)
    (case z12 => k_is); (case v0 => k_is); (case v1 => k_is); (case v2 => k_is); (case v3 => k_is); (case v4 => k_is)

