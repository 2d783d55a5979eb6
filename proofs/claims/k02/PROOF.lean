import PyProof.Rows.All
import Wide.All
import OpenK.AllK
import Wide.FinOn
import HandS.ForExc
import HandS.Comp
import HandS.Evl
import HandS.Deep
import HandS.TupAny
import HandS.IsInst
import HandS.ExcIs
import HandS.Small
import HandS.Text
import HandS.Iter
import HandS.Conv
import HandS.TupMul
import HandS.TupLe
import HandS.GenList
import HandS.AnyAll
import HandS.EndTab
import KE.LtData
import PyProof.TableCode
import PySem.Challenge.RW_treegarb_k02_matching
set_option Elab.async false
set_option linter.all false
set_option maxRecDepth 100000
set_option maxHeartbeats 4000000
set_option autoImplicit false
/-! The data layer: immutable values as PyData, lists that a def grows as owned slots. -/
namespace DL
open PySem PySem.Spec L2

abbrev D := PyData
/-- no code object's table -/
def NT (o : HO) : Prop := ∀ ps, o ≠ .tbl ps
/-- the part of the heap that is not protected -/
def cut (O : List Addr) (H : Hp) : Hp := fun a => if a ∈ O then none else H a
theorem cut_in {O : List Addr} {H : Hp} {a : Addr} (h : a ∈ O) : cut O H a = none := if_pos h
theorem cut_out {O : List Addr} {H : Hp} {a : Addr} (h : a ∉ O) : cut O H a = H a := if_neg h
theorem cut_some {O : List Addr} {H : Hp} {a : Addr} {o : HO} (h : cut O H a = some o) : a ∉ O ∧ H a = some o := by
  by_cases q : a ∈ O
  · rw [cut_in q] at h; cases h
  · rw [cut_out q] at h; exact ⟨q, h⟩
/-- what is read stays -/
def Sub (G G' : Hp) : Prop := ∀ a o, G a = some o → NT o → G' a = some o
theorem Sub.refl (G : Hp) : Sub G G := fun _ _ h _ => h
theorem Sub.trans {G G' G'' : Hp} (a : Sub G G') (b : Sub G' G'') : Sub G G'' := fun x o h n => b x o (a x o h n) n
theorem Sub.cut (O : List Addr) (H : Hp) : Sub (cut O H) H := fun _ _ h _ => (cut_some h).2
theorem nt_lst {xs : List V} : NT (.lst xs) := fun _ q => by cases q
theorem nt_tup {xs : List V} : NT (.tup xs) := fun _ q => by cases q
theorem nt_frz {o : Obj} {u : HO} : NT (.frz o u) := fun _ q => by cases q
theorem Sub.rdl {G G' : Hp} {a : Addr} {xs : List V} (e : Sub G G') (h : Rd G a (.lst xs)) : Rd G' a (.lst xs) := by
  rcases h with h | ⟨o, h⟩
  · exact .inl (e a _ h nt_lst)
  · exact .inr ⟨o, e a _ h nt_frz⟩
theorem Sub.rdt {G G' : Hp} {a : Addr} {xs : List V} (e : Sub G G') (h : Rd G a (.tup xs)) : Rd G' a (.tup xs) := by
  rcases h with h | ⟨o, h⟩
  · exact .inl (e a _ h nt_tup)
  · exact .inr ⟨o, e a _ h nt_frz⟩
theorem Sub.sql {K : PySem.W.Frag} {G G' : Hp} {a : Addr} {xs : List V} (e : Sub G G') (h : SqL K G a xs) : SqL K G' a xs := by
  rcases h with h | h
  · exact .inl (e.rdl h)
  · exact .inr h
theorem Sub.sqt {K : PySem.W.Frag} {G G' : Hp} {a : Addr} {xs : List V} (e : Sub G G') (h : SqT K G a xs) : SqT K G' a xs := by
  rcases h with h | h
  · exact .inl (e.rdt h)
  · exact .inr h
mutual
theorem Sub.dp {K : PySem.W.Frag} {G G' : Hp} (e : Sub G G') : ∀ {d : D} {v : V}, Dp K G v d → Dp K G' v d
  | _, _, .non => .non
  | _, _, .bl b => .bl b
  | _, _, .int i => .int i
  | _, _, .str x => .str x
  | _, _, .lst h r => .lst (e.sql h) (Sub.dpa e r)
  | _, _, .tup h r => .tup (e.sqt h) (Sub.dpa e r)
theorem Sub.dpa {K : PySem.W.Frag} {G G' : Hp} (e : Sub G G') : ∀ {ds : List D} {vs : List V}, DpAll K G vs ds → DpAll K G' vs ds
  | _, _, .nil => .nil
  | _, _, .cons h r => .cons (Sub.dp e h) (Sub.dpa e r)
end
theorem dpa_len {K : PySem.W.Frag} {G : Hp} : ∀ {ds : List D} {vs : List V}, DpAll K G vs ds → vs.length = ds.length
  | _, _, .nil => rfl
  | _, _, .cons _ r => congrArg (· + 1) (dpa_len r)
theorem dpa_app {K : PySem.W.Frag} {G : Hp} : ∀ {ds es : List D} {vs us : List V}, DpAll K G vs ds → DpAll K G us es → DpAll K G (vs ++ us) (ds ++ es)
  | _, _, _, _, .nil, h => h
  | _, _, _, _, .cons h r, q => .cons h (dpa_app r q)
theorem dpa_get {K : PySem.W.Frag} {G : Hp} : ∀ {ds : List D} {vs : List V} {i : Nat} {d : D}, DpAll K G vs ds → ds[i]? = some d → ∃ v, vs[i]? = some v ∧ Dp K G v d
  | _, _, _, _, .nil, e => by simp at e
  | _, _, 0, _, .cons h _, e => by simp at e; subst e; exact ⟨_, rfl, h⟩
  | _, _, i + 1, d, .cons _ r, e => by
    obtain ⟨v, a, b⟩ := dpa_get (i := i) (d := d) r (by simpa using e)
    exact ⟨v, by simpa using a, b⟩
theorem dpa_getv {K : PySem.W.Frag} {G : Hp} : ∀ {ds : List D} {vs : List V} {i : Nat} {v : V}, DpAll K G vs ds → vs[i]? = some v → ∃ d, ds[i]? = some d ∧ Dp K G v d
  | _, _, _, _, .nil, e => by simp at e
  | _, _, 0, _, .cons h _, e => by simp at e; subst e; exact ⟨_, rfl, h⟩
  | _, _, i + 1, v, .cons _ r, e => by
    obtain ⟨d, a, b⟩ := dpa_getv (i := i) (v := v) r (by simpa using e)
    exact ⟨d, by simpa using a, b⟩
theorem dpa_take {K : PySem.W.Frag} {G : Hp} : ∀ {ds : List D} {vs : List V} (n : Nat), DpAll K G vs ds → DpAll K G (vs.take n) (ds.take n)
  | _, _, 0, _ => .nil
  | _, _, _ + 1, .nil => .nil
  | _, _, n + 1, .cons h r => .cons h (dpa_take n r)
theorem dpa_drop {K : PySem.W.Frag} {G : Hp} : ∀ {ds : List D} {vs : List V} (n : Nat), DpAll K G vs ds → DpAll K G (vs.drop n) (ds.drop n)
  | _, _, 0, h => h
  | _, _, _ + 1, .nil => .nil
  | _, _, n + 1, .cons _ r => dpa_drop n r
theorem dpa_set {K : PySem.W.Frag} {G : Hp} {v : V} {d : D} (h : Dp K G v d) : ∀ {ds : List D} {vs : List V} (n : Nat), DpAll K G vs ds → DpAll K G (vs.set n v) (ds.set n d)
  | _, _, _, .nil => .nil
  | _, _, 0, .cons _ r => .cons h r
  | _, _, n + 1, .cons q r => .cons q (dpa_set h n r)
theorem dpa_dropLast {K : PySem.W.Frag} {G : Hp} : ∀ {ds : List D} {vs : List V}, DpAll K G vs ds → DpAll K G vs.dropLast ds.dropLast
  | _, _, .nil => .nil
  | _, _, .cons _ .nil => .nil
  | _, _, .cons h (.cons q r) => .cons h (dpa_dropLast (.cons q r))
theorem dpa_erase {K : PySem.W.Frag} {G : Hp} : ∀ {ds : List D} {vs : List V} (n : Nat), DpAll K G vs ds → DpAll K G (vs.eraseIdx n) (ds.eraseIdx n)
  | _, _, _, .nil => .nil
  | _, _, 0, .cons _ r => r
  | _, _, n + 1, .cons h r => .cons h (dpa_erase n r)
theorem dpa_rev {K : PySem.W.Frag} {G : Hp} : ∀ {ds : List D} {vs : List V}, DpAll K G vs ds → DpAll K G vs.reverse ds.reverse
  | _, _, .nil => .nil
  | _, _, .cons h r => by
    rw [List.reverse_cons, List.reverse_cons]
    exact dpa_app (dpa_rev r) (.cons h .nil)
theorem dpa_rep {K : PySem.W.Frag} {G : Hp} {ds : List D} {vs : List V} (h : DpAll K G vs ds) : ∀ k : Nat, DpAll K G (List.replicate k vs).flatten (List.replicate k ds).flatten
  | 0 => .nil
  | k + 1 => by
    rw [List.replicate_succ, List.replicate_succ, List.flatten_cons, List.flatten_cons]
    exact dpa_app h (dpa_rep h k)

/-! ### order of ints, reckoned step by step -/
def ltI : Int → Int → Bool
  | .ofNat m, .ofNat n => Nat.blt m n
  | .ofNat _, .negSucc _ => false
  | .negSucc _, .ofNat _ => true
  | .negSucc m, .negSucc n => Nat.blt n m
theorem ltI_eq (i j : Int) : ltI i j = decide (i < j) := by
  cases i with
  | ofNat m =>
    cases j with
    | ofNat n =>
      show Nat.blt m n = _
      rw [Bool.eq_iff_iff, decide_eq_true_iff, Nat.blt_eq]
      exact Int.ofNat_lt.symm
    | negSucc n =>
      show false = _
      rw [eq_comm, decide_eq_false_iff_not, Int.ofNat_eq_natCast]
      omega
  | negSucc m =>
    cases j with
    | ofNat n =>
      show true = _
      rw [eq_comm, decide_eq_true_iff, Int.ofNat_eq_natCast]
      omega
    | negSucc n =>
      show Nat.blt n m = _
      rw [Bool.eq_iff_iff, decide_eq_true_iff, Nat.blt_eq]
      omega
theorem leI_eq (i j : Int) : (!ltI j i) = decide (i ≤ j) := by
  rw [ltI_eq]
  by_cases h : j < i
  · rw [decide_eq_true h, decide_eq_false (by omega)]; rfl
  · rw [decide_eq_false h, decide_eq_true (by omega)]; rfl
def btw (lo hi j : Int) : Bool := ltI lo j && ltI j hi
theorem btw_iff {lo hi j : Int} : btw lo hi j = true ↔ lo < j ∧ j < hi := by
  unfold btw
  rw [ltI_eq, ltI_eq, Bool.and_eq_true, decide_eq_true_iff, decide_eq_true_iff]
/-! ### slots -/
inductive Sl where
  | un
  | dat (d : D)
  | own (ds : List D)
abbrev Sts := List Sl

/-- what is fixed while a def runs -/
structure Cf where
  K : PySem.W.Frag
  T : List Addr
  ca : Str → Addr
  np : Nat
  pin : List (Nat × Addr)
  O0 : List Addr
  H0 : Hp
abbrev Cf.A0 (c : Cf) : List Addr := c.pin.map (·.2)
/-- a code object's table -/
def Tb (H : Hp) (P : Addr) : Prop := ∃ ps : Array Value, H P = some (.tbl ps) ∧ TriplesOk ps.toList
def Tbs (T : List Addr) (H : Hp) : Prop := ∀ P ∈ T, Tb H P

/-- the slot's value bears x; A: the addresses that are owned here -/
def SlOk (K : PySem.W.Frag) (O A : List Addr) (H : Hp) (o : Option V) : Sl → Prop
  | .un => True
  | .dat d => ∃ v, o = some v ∧ Dp K (cut O H) v d
  | .own ds => ∃ l vs, o = some (.ref l) ∧ l ∈ A ∧ H l = some (.lst vs) ∧ DpAll K (cut O H) vs ds

structure Rel (c : Cf) (O A : List Addr) (σ : St) (H : Hp) (s : Sts) : Prop where
  len : σ.length = s.length
  sub : ∀ a ∈ A, a ∈ O
  alv : ∀ a ∈ O, ∃ o, H a = some o ∧ NT o
  slot : ∀ (i : Nat) (x : Sl), s[i]? = some x → SlOk c.K O A H ((σ[i]?).getD none) x
  inj : ∀ (i j : Nat) (ds es : List D) (l : Addr), s[i]? = some (.own ds) → s[j]? = some (.own es) → σ[i]? = some (some (.ref l)) → σ[j]? = some (some (.ref l)) → i = j
  kp : ∀ a o, c.H0 a = some o → NT o → a ∉ c.A0 → H a = some o
  fr : ∀ a ∈ A, a ∈ c.A0 ∨ ∀ o, c.H0 a = some o → ¬ NT o
  z0 : ∀ a ∈ c.O0, ∃ o, c.H0 a = some o ∧ NT o
  o0 : ∀ a ∈ c.O0, a ∈ O
  pn : ∀ p ∈ c.pin, p.1 < c.np ∧ σ[p.1]? = some (some (.ref p.2)) ∧ ∃ ds, s[p.1]? = some (.own ds)
  tb : Tbs c.T H

/-- from (O, H) to (O', H'): what could be read can be read -/
def Fwd (O : List Addr) (H : Hp) (O' : List Addr) (H' : Hp) : Prop := Sub (cut O H) (cut O' H')
theorem Fwd.refl (O : List Addr) (H : Hp) : Fwd O H O H := Sub.refl _
theorem Fwd.trans {O O1 O2 : List Addr} {H H1 H2 : Hp} (a : Fwd O H O1 H1) (b : Fwd O1 H1 O2 H2) : Fwd O H O2 H2 := Sub.trans a b
/-- new things alone -/
structure Grow (c : Cf) (H H' : Hp) : Prop where
  sub : Sub H H'
  tb : Tbs c.T H → Tbs c.T H'
theorem Grow.refl (c : Cf) (H : Hp) : Grow c H H := ⟨Sub.refl _, id⟩
theorem Grow.trans {c : Cf} {H H1 H2 : Hp} (a : Grow c H H1) (b : Grow c H1 H2) : Grow c H H2 := ⟨a.sub.trans b.sub, fun t => b.tb (a.tb t)⟩
theorem Grow.new {c : Cf} {H : Hp} {p : Addr} {o : HO} (h : H p = none) : Grow c H (upd H p o) := by
  refine ⟨fun a u e _ => by rw [upd_ne (ne_of_none e h)]; exact e, fun t P hP => ?_⟩
  obtain ⟨ps, e, q⟩ := t P hP
  exact ⟨ps, by rw [upd_ne (ne_of_none e h)]; exact e, q⟩
theorem Grow.cut {c : Cf} {H H' : Hp} (g : Grow c H H') (O : List Addr) : Sub (cut O H) (cut O H') := fun a o h n => by
  obtain ⟨h1, h2⟩ := cut_some h
  rw [cut_out h1]
  exact g.sub a o h2 n
theorem Grow.fwd {c : Cf} {H H' : Hp} (g : Grow c H H') (O : List Addr) : Fwd O H O H' := g.cut O
theorem SlOk.grow {c : Cf} {O A : List Addr} {H H' : Hp} {o : Option V} {x : Sl} (g : Grow c H H') (h : SlOk c.K O A H o x) : SlOk c.K O A H' o x := by
  cases x with
  | un => trivial
  | dat d => obtain ⟨v, e, q⟩ := h; exact ⟨v, e, (g.cut O).dp q⟩
  | own ds => obtain ⟨l, vs, e, h1, h2, q⟩ := h; exact ⟨l, vs, e, h1, g.sub l _ h2 nt_lst, (g.cut O).dpa q⟩
theorem Rel.grow {c : Cf} {O A : List Addr} {σ : St} {H H' : Hp} {s : Sts} (g : Grow c H H') (r : Rel c O A σ H s) : Rel c O A σ H' s where
  len := r.len
  sub := r.sub
  alv := fun a h => let ⟨o, e, n⟩ := r.alv a h; ⟨o, g.sub a o e n, n⟩
  slot := fun i x h => (r.slot i x h).grow g
  inj := r.inj
  kp := fun a o h n q => g.sub a o (r.kp a o h n q) n
  fr := r.fr
  z0 := r.z0
  o0 := r.o0
  pn := r.pn
  tb := g.tb r.tb
theorem Rel.fresh {c : Cf} {O A : List Addr} {σ : St} {H : Hp} {s : Sts} {p : Addr} (r : Rel c O A σ H s) (h : H p = none) : p ∉ O := fun q => by
  obtain ⟨o, e, _⟩ := r.alv p q
  rw [h] at e; cases e

/-! ### results -/
inductive Rs (α : Type) where
  | ok (a : α) (s : Sts)
  | err (x : Str) (s : Sts)
  | bad
abbrev M (α : Type) := Sts → Rs α
def Rs.bind {α β : Type} (r : Rs α) (k : α → M β) : Rs β := match r with
  | .ok a s => k a s
  | .err x s => .err x s
  | .bad => .bad
@[simp] theorem bind_ok {α β : Type} (a : α) (s : Sts) (k : α → M β) : (Rs.ok a s).bind k = k a s := rfl
@[simp] theorem bind_err {α β : Type} (x : Str) (s : Sts) (k : α → M β) : (Rs.err x s : Rs α).bind k = .err x s := rfl
@[simp] theorem bind_bad {α β : Type} (k : α → M β) : (Rs.bad : Rs α).bind k = .bad := rfl
/-- a partial value -/
def lift {α : Type} (o : Option α) (s : Sts) : Rs α := match o with
  | some a => .ok a s
  | none => .bad
@[simp] theorem lift_some {α : Type} (a : α) (s : Sts) : lift (some a) s = .ok a s := rfl
@[simp] theorem lift_none {α : Type} (s : Sts) : lift (none : Option α) s = .bad := rfl

/-- an expression's step: owned lists may change, new things may come -/
def Stp (A : List Addr) (H H' : Hp) : Prop := ∀ a o, a ∉ A → H a = some o → NT o → H' a = some o
theorem Stp.refl (A : List Addr) (H : Hp) : Stp A H H := fun _ _ _ h _ => h
theorem Stp.trans {A : List Addr} {H H1 H2 : Hp} (a : Stp A H H1) (b : Stp A H1 H2) : Stp A H H2 := fun x o n h t => b x o n (a x o n h t) t
theorem Stp.fwd {O A : List Addr} {H H' : Hp} (hs : ∀ a ∈ A, a ∈ O) (h : Stp A H H') : Fwd O H O H' := fun a o e n => by
  obtain ⟨h1, h2⟩ := cut_some e
  rw [cut_out h1]
  exact h a o (fun z => h1 (hs a z)) h2 n
theorem Grow.stp {c : Cf} {H H' : Hp} (g : Grow c H H') (A : List Addr) : Stp A H H' := fun a o _ h n => g.sub a o h n
/-- what must hold behind -/
def Wp {α : Type} (c : Cf) (W : WX) (O A : List Addr) (σ : St) (H : Hp) (r : Rs α) (P : α → Sts → Hp → Prop) : Prop := match r with
  | .ok a s' => ∀ H', Stp A H H' → Rel c O A σ H' s' → P a s' H'
  | .err x s' => ∀ H', Stp A H H' → Rel c O A σ H' s' → W (.ref (c.ca x)) none σ H'
  | .bad => False
theorem Wp.mono {α : Type} {c : Cf} {W : WX} {O A : List Addr} {σ : St} {H : Hp} {r : Rs α} {P P' : α → Sts → Hp → Prop} (h : Wp c W O A σ H r P)
    (k : ∀ a s' H', r = .ok a s' → Stp A H H' → Rel c O A σ H' s' → P a s' H' → P' a s' H') : Wp c W O A σ H r P' := by
  cases r with
  | ok a s' => exact fun H' f q => k a s' H' rfl f q (h H' f q)
  | err x s' => exact h
  | bad => exact h
/-- further on -/
theorem Wp.fwd {α : Type} {c : Cf} {W : WX} {O A : List Addr} {σ : St} {H H1 : Hp} {r : Rs α} {P : α → Sts → Hp → Prop} (f : Stp A H H1) (h : Wp c W O A σ H r P) : Wp c W O A σ H1 r P := by
  cases r with
  | ok a s' => exact fun H' f' q => h H' (f.trans f') q
  | err x s' => exact fun H' f' q => h H' (f.trans f') q
  | bad => exact h
/-- a bind: first r, then k -/
theorem Wp.bind {α β : Type} {c : Cf} {W : WX} {O A : List Addr} {σ : St} {H : Hp} {r : Rs α} {k : α → M β} {P : β → Sts → Hp → Prop} (h : Wp c W O A σ H (r.bind k) P) :
    Wp c W O A σ H r (fun a s' H' => Wp c W O A σ H' (k a s') P) := by
  cases r with
  | ok a s' => exact fun H' f _ => Wp.fwd f h
  | err x s' => exact h
  | bad => exact h

abbrev PV (c : Cf) (O : List Addr) (Q : VK) : D → Sts → Hp → Prop := fun d _ H' => ∀ v, Dp c.K (cut O H') v d → Q v H'
abbrev PB (Q : Bool → Hp → Prop) : Bool → Sts → Hp → Prop := fun b _ H' => Q b H'

/-- the reading te reckons f -/
def SemE (c : Cf) (W : WX) (te : TE) (f : M D) : Prop := ∀ O A σ H s, Rel c O A σ H s → ∀ Q : VK, Wp c W O A σ H (f s) (PV c O Q) → te σ H Q
def SemT (c : Cf) (W : WX) (tt : TT) (f : M Bool) : Prop := ∀ O A σ H s, Rel c O A σ H s → ∀ Q : Bool → Hp → Prop, Wp c W O A σ H (f s) (PB Q) → tt σ H Q
/-- arguments: data, or an owned slot -/
inductive Ar where
  | dat (d : D)
  | own (i : Nat)
def ArOk (c : Cf) (O : List Addr) (σ : St) (H : Hp) (s : Sts) (v : V) : Ar → Prop
  | .dat d => Dp c.K (cut O H) v d
  | .own i => σ[i]? = some (some v) ∧ ∃ ds, s[i]? = some (.own ds)
inductive ArsOk (c : Cf) (O : List Addr) (σ : St) (H : Hp) (s : Sts) : List V → List Ar → Prop
  | nil : ArsOk c O σ H s [] []
  | cons {v : V} {vs : List V} {a : Ar} {as : List Ar} : ArOk c O σ H s v a → ArsOk c O σ H s vs as → ArsOk c O σ H s (v :: vs) (a :: as)
def SemA (c : Cf) (W : WX) (ta : TA) (f : M (List D)) : Prop := ∀ O A σ H s, Rel c O A σ H s → ∀ Q : List V → Hp → Prop, Wp c W O A σ H (f s) (fun ds _ H' => ∀ vs, DpAll c.K (cut O H') vs ds → Q vs H') → ta σ H Q

def DE (c : Cf) (X : Cx) (W : WX) (e : Expr) (f : M D) : Prop := ∃ te, PE X e te ∧ SemE c W te f
def DT (c : Cf) (X : Cx) (W : WX) (e : Expr) (f : M Bool) : Prop := ∃ tt, PT X e tt ∧ SemT c W tt f
def DA (c : Cf) (X : Cx) (W : WX) (es : List Expr) (f : M (List D)) : Prop := ∃ ta, PA X es ta ∧ SemA c W ta f

/-! ### names, constants -/
def mVar (i : Nat) : M D := fun s => match s[i]? with
  | some (.dat d) => .ok d s
  | _ => .bad
def mC (d : D) : M D := fun s => .ok d s
def mMap {α β : Type} (f : M α) (g : α → Option β) : M β := fun s => (f s).bind fun a s1 => lift (g a) s1
def mMap2 {α β γ : Type} (f : M α) (g : M β) (h : α → β → Option γ) : M γ := fun s => (f s).bind fun a s1 => (g s1).bind fun b s2 => lift (h a b) s2
theorem Rel.dat {c : Cf} {O A : List Addr} {σ : St} {H : Hp} {s : Sts} {i : Nat} {d : D} (r : Rel c O A σ H s) (h : s[i]? = some (.dat d)) : ∃ v, σ[i]? = some (some v) ∧ Dp c.K (cut O H) v d := by
  obtain ⟨v, e, q⟩ := r.slot i _ h
  refine ⟨v, ?_, q⟩
  cases z : σ[i]? with
  | none => rw [z] at e; cases e
  | some o => rw [z] at e; exact congrArg some e
theorem Rel.own {c : Cf} {O A : List Addr} {σ : St} {H : Hp} {s : Sts} {i : Nat} {ds : List D} (r : Rel c O A σ H s) (h : s[i]? = some (.own ds)) : ∃ l vs, σ[i]? = some (some (.ref l)) ∧ l ∈ A ∧ H l = some (.lst vs) ∧ DpAll c.K (cut O H) vs ds := by
  obtain ⟨l, vs, e, h1, h2, q⟩ := r.slot i _ h
  refine ⟨l, vs, ?_, h1, h2, q⟩
  cases z : σ[i]? with
  | none => rw [z] at e; cases e
  | some o => rw [z] at e; exact congrArg some e
section
variable {c : Cf} {X : Cx} {W : WX} {a b : Expr} {f g : M D} {pos : Pos}
theorem sem_var (i : Nat) : SemE c W (tVar i) (mVar i) := by
  intro O A σ H s r Q h
  unfold mVar at h
  cases z : s[i]? with
  | none => rw [z] at h; exact h.elim
  | some x =>
    rw [z] at h
    cases x with
    | un => exact h.elim
    | own ds => exact h.elim
    | dat d =>
      obtain ⟨v, e, q⟩ := r.dat z
      exact ⟨v, e, h H (Stp.refl _ _) r v q⟩
theorem sem_c {v : V} {d : D} (h : ∀ H, Dp c.K H v d) : SemE c W (tC v) (mC d) := fun O A σ H s r Q k => k H (Stp.refl _ _) r v (h _)
/-- the name in slot i -/
theorem dv (i : Nat) {x : Str} (hN : X.N[i]? = some x := by rfl) (hv : Vis X.env.scope x := by first | exact Or.inl rfl | exact Or.inr (Or.inl rfl) | exact Or.inr (Or.inr rfl)) (hd : (x == ("__debug__" : Str)) = false := by decide)
    (hcd : (x == ("__classdict__" : Str)) = false := by decide) : DE c X W (.Name x pos) (mVar i) := ⟨_, pe_var hN hv hd hcd, sem_var i⟩
theorem d_int {i j} : DE c X W (.Constant (.int i) j pos) (mC (.int i)) := ⟨_, pe_int, sem_c fun _ => .int i⟩
theorem d_bl {b j} : DE c X W (.Constant (.bool b) j pos) (mC (.bool b)) := ⟨_, pe_bl, sem_c fun _ => .bl b⟩
theorem d_non {j} : DE c X W (.Constant .none j pos) (mC .none) := ⟨_, pe_non, sem_c fun _ => .non⟩
theorem d_str {x j} : DE c X W (.Constant (.str x) j pos) (mC (.str x)) := ⟨_, pe_str, sem_c fun _ => .str x⟩

/-! ### operations on values -/
/-- r does op -/
def Op2 (c : Cf) (r : R2) (op : D → D → Option D) : Prop := ∀ O H x y v w d, (∀ a ∈ O, ∃ o, H a = some o ∧ NT o) → op v w = some d → Dp c.K (cut O H) x v → Dp c.K (cut O H) y w → ∀ Q : VK, (∀ z H', Grow c H H' → Dp c.K (cut O H') z d → Q z H') → r x y H Q
def Op1 (c : Cf) (r : V → Hp → VK → Prop) (op : D → Option D) : Prop := ∀ O H x v d, (∀ a ∈ O, ∃ o, H a = some o ∧ NT o) → op v = some d → Dp c.K (cut O H) x v → ∀ Q : VK, (∀ z H', Grow c H H' → Dp c.K (cut O H') z d → Q z H') → r x H Q
def OpN (c : Cf) (r : List V → Hp → VK → Prop) (op : List D → Option D) : Prop := ∀ O H xs vs d, (∀ a ∈ O, ∃ o, H a = some o ∧ NT o) → op vs = some d → DpAll c.K (cut O H) xs vs → ∀ Q : VK, (∀ z H', Grow c H H' → Dp c.K (cut O H') z d → Q z H') → r xs H Q
theorem sem_op {r : R2} {op : D → D → Option D} {ta tb : TE} (ho : Op2 c r op) (ha : SemE c W ta f) (hb : SemE c W tb g) : SemE c W (tOp r ta tb) (mMap2 f g op) := by
  intro O A σ H s re Q h
  refine ha O A σ H s re _ (Wp.mono (Wp.bind h) ?_)
  intro v s1 H1 _ f1 r1 h1 x qx
  refine hb O A σ H1 s1 r1 _ (Wp.mono (Wp.bind h1) ?_)
  intro w s2 H2 _ f2 r2 h2 y qy
  cases e : op v w with
  | none => rw [e] at h2; exact h2.elim
  | some d =>
    rw [e] at h2
    refine ho O H2 x y v w d r2.alv e (Sub.dp (f2.fwd r1.sub) qx) qy Q fun z H' gr qz => ?_
    exact h2 H' (gr.stp A) (r2.grow gr) z qz
theorem sem_un {r : V → Hp → VK → Prop} {op : D → Option D} {ta : TE} (ho : Op1 c r op) (ha : SemE c W ta f) : SemE c W (tUn r ta) (mMap f op) := by
  intro O A σ H s re Q h
  refine ha O A σ H s re _ (Wp.mono (Wp.bind h) ?_)
  intro v s1 H1 _ f1 r1 h1 x qx
  cases e : op v with
  | none => rw [e] at h1; exact h1.elim
  | some d =>
    rw [e] at h1
    refine ho O H1 x v d r1.alv e qx Q fun z H' gr qz => ?_
    exact h1 H' (gr.stp A) (r1.grow gr) z qz
theorem d_bin {o : Operator} {r : R2} {op : D → D → Option D} (hp : OpR X (binaryOp o) r) (ho : Op2 c r op) (ha : DE c X W a f) (hb : DE c X W b g) : DE c X W (.BinOp a o b pos) (mMap2 f g op) := by
  obtain ⟨ta, pa, sa⟩ := ha
  obtain ⟨tb, pb, sb⟩ := hb
  exact ⟨_, pe_op hp pa pb, sem_op ho sa sb⟩
/-- a comparison as a value -/
theorem d_cmp {o : CmpOp} {r : R2} {op : D → D → Option D} (hp : OpR X (compareOp o) r) (ho : Op2 c r op) (ha : DE c X W a f) (hb : DE c X W b g) (hm : behindInMarks o b = false := by first | exact nobehind _ (by decide) (by decide) | rfl) : DE c X W (.Compare a [o] [b] pos) (mMap2 f g op) := by
  obtain ⟨ta, pa, sa⟩ := ha
  obtain ⟨tb, pb, sb⟩ := hb
  exact ⟨_, pe_cmpR hp pa pb hm, sem_op ho sa sb⟩
end
end DL

namespace DL
open PySem PySem.Spec L2
/-! ### tests -/
def asB : D → Option Bool
  | .bool b => some b
  | _ => none
@[simp] theorem asB_bool (b : Bool) : asB (.bool b) = some b := rfl
/-- a value that is a bool, as a test -/
def mT (f : M D) : M Bool := mMap f asB
def truth : D → Option Bool
  | .none => some false
  | .bool b => some b
  | .int i => some (i != 0)
  | .str x => if x.length ≤ sizeLine then some ((x.length : Int) != 0) else none
  | .list xs => some !xs.isEmpty
  | .tuple xs => some !xs.isEmpty
  | .dict _ => none
def mTru (f : M D) : M Bool := mMap f truth
def mAnd (f g : M Bool) : M Bool := fun s => (f s).bind fun b s1 => if b = true then g s1 else .ok false s1
def mOr (f g : M Bool) : M Bool := fun s => (f s).bind fun b s1 => if b = true then .ok true s1 else g s1
def mNot (f : M Bool) : M Bool := fun s => (f s).bind fun b s1 => .ok (!b) s1
def mAndV (f g : M D) : M D := fun s => (f s).bind fun d s1 => match asB d with | some true => g s1 | some false => .ok (.bool false) s1 | none => .bad
def mOrV (f g : M D) : M D := fun s => (f s).bind fun d s1 => match asB d with | some true => .ok (.bool true) s1 | some false => g s1 | none => .bad
def mNotV (f : M D) : M D := mMap f fun d => (asB d).map fun b => .bool (!b)
def mIf (t : M Bool) (f g : M D) : M D := fun s => (t s).bind fun b s1 => if b = true then f s1 else g s1
def mChain (f g h : M D) (op op' : D → D → Option D) : M D := fun s => (f s).bind fun a s1 => (g s1).bind fun b s2 => match op a b with
  | some (.bool true) => (h s2).bind fun d s3 => lift (op' b d) s3
  | some (.bool false) => .ok (.bool false) s2
  | _ => .bad
theorem asB_some {d : D} {b : Bool} (h : asB d = some b) : d = .bool b := by
  cases d <;> simp [asB] at h
  rw [h]
theorem dp_bool {K : PySem.W.Frag} {G : Hp} {v : V} {b : Bool} (h : Dp K G v (.bool b)) : v = .bl b := by cases h; rfl
theorem dp_int {K : PySem.W.Frag} {G : Hp} {v : V} {i : Int} (h : Dp K G v (.int i)) : v = .int i := by cases h; rfl
theorem dp_str {K : PySem.W.Frag} {G : Hp} {v : V} {x : Str} (h : Dp K G v (.str x)) : v = .str x := by cases h; rfl
theorem dp_non {K : PySem.W.Frag} {G : Hp} {v : V} (h : Dp K G v .none) : v = .non := by cases h; rfl
theorem dp_list {K : PySem.W.Frag} {G : Hp} {v : V} {ds : List D} (h : Dp K G v (.list ds)) : ∃ a xs, v = .ref a ∧ SqL K G a xs ∧ DpAll K G xs ds := by
  cases h with
  | lst h r => exact ⟨_, _, rfl, h, r⟩
theorem dp_tup {K : PySem.W.Frag} {G : Hp} {v : V} {ds : List D} (h : Dp K G v (.tuple ds)) : ∃ a xs, v = .ref a ∧ SqT K G a xs ∧ DpAll K G xs ds := by
  cases h with
  | tup h r => exact ⟨_, _, rfl, h, r⟩
theorem dp_nodict {K : PySem.W.Frag} {G : Hp} {v : V} {kvs : List (D × D)} (h : Dp K G v (.dict kvs)) : False := by cases h
section
variable {c : Cf} {X : Cx} {W : WX} {a b : Expr} {f g h : M D} {ft gt : M Bool} {pos : Pos}
theorem sem_test {te : TE} (hs : SemE c W te f) : SemT c W (tTest te) (mT f) := by
  intro O A σ H s r Q h
  refine hs O A σ H s r _ (Wp.mono (Wp.bind h) ?_)
  intro d s1 H1 _ f1 r1 h1 v q
  cases e : asB d with
  | none => rw [e] at h1; exact h1.elim
  | some k =>
    rw [e] at h1
    have z := asB_some e
    subst z
    exact ⟨k, dp_bool q, h1 H1 (Stp.refl _ _) r1⟩
theorem sem_B {te : TE} (hs : SemE c W te f) : SemT c W (tB te) (mT f) := sem_test hs
/-- an expression that gives a bool, as a test -/
theorem t_val (he : DE c X W a f) (hp : ∀ whole, isTrue a X.env whole = (do let v ← whole; standAt a.pos; holding [v] (truthy v)) := by intro _; rfl) : DT c X W a (mT f) := by
  obtain ⟨te, pe, se⟩ := he
  exact ⟨_, pt_val pe hp, sem_B se⟩
theorem t_cmp {o : CmpOp} {r : R2} {op : D → D → Option D} (hp : OpR X (compareOp o) r) (ho : Op2 c r op) (ha : DE c X W a f) (hb : DE c X W b g) (hm : behindInMarks o b = false := by first | exact nobehind _ (by decide) (by decide) | rfl) :
    DT c X W (.Compare a [o] [b] pos) (mT (mMap2 f g op)) := by
  obtain ⟨ta, pa, sa⟩ := ha
  obtain ⟨tb, pb, sb⟩ := hb
  exact ⟨_, pt_cmpR hp pa pb hm, sem_test (sem_op ho sa sb)⟩
theorem sem_chain {r r' : R2} {op op' : D → D → Option D} {ta tb tc : TE} (ho : Op2 c r op) (ho' : Op2 c r' op') (ha : SemE c W ta f) (hb : SemE c W tb g) (hc : SemE c W tc h) : SemE c W (tChain r r' ta tb tc) (mChain f g h op op') := by
  intro O A σ H s re Q hw
  refine ha O A σ H s re _ (Wp.mono (Wp.bind hw) ?_)
  intro v s1 H1 _ f1 r1 h1 x qx
  refine hb O A σ H1 s1 r1 _ (Wp.mono (Wp.bind h1) ?_)
  intro w s2 H2 _ f2 r2 h2 y qy
  cases e : op v w with
  | none => rw [e] at h2; exact h2.elim
  | some d =>
    rw [e] at h2
    cases d with
    | bool k =>
      refine ho O H2 x y v w _ r2.alv e (Sub.dp (f2.fwd r1.sub) qx) qy _ fun z H' gr qz => ⟨k, dp_bool qz, ?_⟩
      have r3 := r2.grow gr
      cases k with
      | true =>
        refine (if_pos rfl).mpr ?_
        refine hc O A σ H' s2 r3 _ (Wp.mono (Wp.bind (Wp.fwd (gr.stp A) h2)) ?_)
        intro u s3 H3 _ f3 r4 h3 t qt
        cases e' : op' w u with
        | none => rw [e'] at h3; exact h3.elim
        | some d' =>
          rw [e'] at h3
          refine ho' O H3 y t w u d' r4.alv e' (Sub.dp (f3.fwd r3.sub) ((gr.cut O).dp qy)) qt Q fun z' H4 gr' qz' => ?_
          exact h3 H4 (gr'.stp A) (r4.grow gr') z' qz'
      | false =>
        refine (if_neg Bool.false_ne_true).mpr ?_
        exact h2 H' (gr.stp A) r3 _ (.bl false)
    | none => exact h2.elim
    | int _ => exact h2.elim
    | str _ => exact h2.elim
    | list _ => exact h2.elim
    | tuple _ => exact h2.elim
    | dict _ => exact h2.elim
theorem d_chain {e3 : Expr} {o o' : CmpOp} {r r' : R2} {op op' : D → D → Option D} (hp : OpR X (compareOp o) r) (hp' : OpR X (compareOp o') r') (ho : Op2 c r op) (ho' : Op2 c r' op') (ha : DE c X W a f) (hb : DE c X W b g) (hc : DE c X W e3 h)
    (hm : lastMarks [o, o'] [b, e3] = false := by with_unfolding_all rfl) : DE c X W (.Compare a [o, o'] [b, e3] pos) (mChain f g h op op') := by
  obtain ⟨ta, pa, sa⟩ := ha
  obtain ⟨tb, pb, sb⟩ := hb
  obtain ⟨tc, pc, sc⟩ := hc
  exact ⟨_, pe_chain hp hp' pa pb pc hm, sem_chain ho ho' sa sb sc⟩
theorem t_chain {e3 : Expr} {o o' : CmpOp} {r r' : R2} {op op' : D → D → Option D} (hp : OpR X (compareOp o) r) (hp' : OpR X (compareOp o') r') (ho : Op2 c r op) (ho' : Op2 c r' op') (ha : DE c X W a f) (hb : DE c X W b g) (hc : DE c X W e3 h)
    (hm : lastMarks [o, o'] [b, e3] = false := by with_unfolding_all rfl) : DT c X W (.Compare a [o, o'] [b, e3] pos) (mT (mChain f g h op op')) := by
  obtain ⟨ta, pa, sa⟩ := ha
  obtain ⟨tb, pb, sb⟩ := hb
  obtain ⟨tc, pc, sc⟩ := hc
  exact ⟨_, pt_chain hp hp' pa pb pc hm, sem_test (sem_chain ho ho' sa sb sc)⟩
theorem tru_of {K : PySem.W.Frag} {O : List Addr} {H : Hp} {v : V} {d : D} {k : Bool} (h : Dp K (cut O H) v d) (e : truth d = some k) : TruV K v H k := by
  cases d with
  | none =>
    have z := dp_non h
    subst z
    exact (Option.some.inj (show some false = some k from e)).symm
  | bool b =>
    have z := dp_bool h
    subst z
    exact (Option.some.inj (show some b = some k from e)).symm
  | int i =>
    have z := dp_int h
    subst z
    exact (Option.some.inj (show some (i != 0) = some k from e)).symm
  | str x =>
    have z := dp_str h
    subst z
    have e' : (if x.length ≤ sizeLine then some ((x.length : Int) != 0) else none) = some k := e
    by_cases hx : x.length ≤ sizeLine
    · rw [if_pos hx] at e'; exact ⟨hx, (Option.some.inj e').symm⟩
    · rw [if_neg hx] at e'; cases e'
  | list ds =>
    obtain ⟨a, xs, rfl, q, r⟩ := dp_list h
    have l := dpa_len r
    have e := (Option.some.inj (show some (!ds.isEmpty) = some k from e))
    refine .inl ⟨xs, (Sub.cut O H).sql q, ?_⟩
    rw [← e]
    cases xs <;> cases ds <;> simp at l ⊢
  | tuple ds =>
    obtain ⟨a, xs, rfl, q, r⟩ := dp_tup h
    have l := dpa_len r
    have e := (Option.some.inj (show some (!ds.isEmpty) = some k from e))
    refine .inr (.inl ⟨xs, (Sub.cut O H).sqt q, ?_⟩)
    rw [← e]
    cases xs <;> cases ds <;> simp at l ⊢
  | dict _ => cases h
/-- any value as a test -/
theorem t_tru (hc : c.K = X.K := by rfl) (he : DE c X W a f) (hp : ∀ whole, isTrue a X.env whole = (do let v ← whole; standAt a.pos; holding [v] (truthy v)) := by intro _; rfl) : DT c X W a (mTru f) := by
  obtain ⟨te, pe, se⟩ := he
  refine ⟨_, pt_truth pe hp, ?_⟩
  intro O A σ H s r Q h
  refine se O A σ H s r _ (Wp.mono (Wp.bind h) ?_)
  intro d s1 H1 _ f1 r1 h1 v q
  cases e : truth d with
  | none => rw [e] at h1; exact h1.elim
  | some k =>
    rw [e] at h1
    exact ⟨k, hc ▸ tru_of q e, h1 H1 (Stp.refl _ _) r1⟩
theorem sem_and {t u : TT} (h1 : SemT c W t ft) (h2 : SemT c W u gt) : SemT c W (tAnd t u) (mAnd ft gt) := by
  intro O A σ H s r Q h
  refine h1 O A σ H s r _ (Wp.mono (Wp.bind h) ?_)
  intro b s1 H1 _ f1 r1 w1
  cases b with
  | true =>
    refine (if_pos rfl).mpr ?_
    exact h2 O A σ H1 s1 r1 Q ((if_pos rfl : (if true = true then gt s1 else _) = gt s1) ▸ w1)
  | false =>
    refine (if_neg Bool.false_ne_true).mpr ?_
    exact w1 H1 (Stp.refl _ _) r1
theorem sem_or {t u : TT} (h1 : SemT c W t ft) (h2 : SemT c W u gt) : SemT c W (tOr t u) (mOr ft gt) := by
  intro O A σ H s r Q h
  refine h1 O A σ H s r _ (Wp.mono (Wp.bind h) ?_)
  intro b s1 H1 _ f1 r1 w1
  cases b with
  | true =>
    refine (if_pos rfl).mpr ?_
    exact w1 H1 (Stp.refl _ _) r1
  | false =>
    refine (if_neg Bool.false_ne_true).mpr ?_
    exact h2 O A σ H1 s1 r1 Q w1
theorem sem_not {t : TT} (h1 : SemT c W t ft) : SemT c W (tNot t) (mNot ft) := by
  intro O A σ H s r Q h
  refine h1 O A σ H s r _ (Wp.mono (Wp.bind h) ?_)
  intro b s1 H1 _ f1 r1 w1
  exact w1 H1 (Stp.refl _ _) r1
/-- and, or chains as tests -/
def DW (c : Cf) (X : Cx) (W : WX) (e : Expr) (f : M Bool) : Prop := ∃ tt, PW X e tt ∧ SemT c W tt f
theorem w_and1 (ha : DT c X W a ft) : DW c X W (.BoolOp .And [a] pos) ft := by obtain ⟨t, p, s⟩ := ha; exact ⟨t, pw_and1 p, s⟩
theorem w_or1 (ha : DT c X W a ft) : DW c X W (.BoolOp .Or [a] pos) ft := by obtain ⟨t, p, s⟩ := ha; exact ⟨t, pw_or1 p, s⟩
theorem w_and {rest : List Expr} (ha : DT c X W a ft) (hb : DW c X W (.BoolOp .And (b :: rest) pos) gt) : DW c X W (.BoolOp .And (a :: b :: rest) pos) (mAnd ft gt) := by
  obtain ⟨t, p, s⟩ := ha
  obtain ⟨u, q, s'⟩ := hb
  exact ⟨_, pw_and p q, sem_and s s'⟩
theorem w_or {rest : List Expr} (ha : DT c X W a ft) (hb : DW c X W (.BoolOp .Or (b :: rest) pos) gt) : DW c X W (.BoolOp .Or (a :: b :: rest) pos) (mOr ft gt) := by
  obtain ⟨t, p, s⟩ := ha
  obtain ⟨u, q, s'⟩ := hb
  exact ⟨_, pw_or p q, sem_or s s'⟩
theorem t_bo (h : DW c X W a ft) : DT c X W a ft := by obtain ⟨t, p, s⟩ := h; exact ⟨t, p.pt, s⟩
theorem t_not (ha : DT c X W a ft) : DT c X W (.UnaryOp .Not a pos) (mNot ft) := by obtain ⟨t, p, s⟩ := ha; exact ⟨_, pt_not p, sem_not s⟩
/-- .. as values -/
theorem sem_andV {ta tb : TE} (h1 : SemE c W ta f) (h2 : SemE c W tb g) : SemE c W (tAndV ta tb) (mAndV f g) := by
  intro O A σ H s r Q h
  refine h1 O A σ H s r _ (Wp.mono (Wp.bind h) ?_)
  intro d s1 H1 _ f1 r1 w1 v q
  cases e : asB d with
  | none => rw [e] at w1; exact w1.elim
  | some k =>
    rw [e] at w1
    have z := asB_some e
    subst z
    refine ⟨k, dp_bool q, ?_⟩
    cases k with
    | true => exact (if_pos rfl).mpr (h2 O A σ H1 s1 r1 Q w1)
    | false => exact (if_neg Bool.false_ne_true).mpr (w1 H1 (Stp.refl _ _) r1 _ (.bl false))
theorem sem_orV {ta tb : TE} (h1 : SemE c W ta f) (h2 : SemE c W tb g) : SemE c W (tOrV ta tb) (mOrV f g) := by
  intro O A σ H s r Q h
  refine h1 O A σ H s r _ (Wp.mono (Wp.bind h) ?_)
  intro d s1 H1 _ f1 r1 w1 v q
  cases e : asB d with
  | none => rw [e] at w1; exact w1.elim
  | some k =>
    rw [e] at w1
    have z := asB_some e
    subst z
    refine ⟨k, dp_bool q, ?_⟩
    cases k with
    | true => exact (if_pos rfl).mpr (w1 H1 (Stp.refl _ _) r1 _ (.bl true))
    | false => exact (if_neg Bool.false_ne_true).mpr (h2 O A σ H1 s1 r1 Q w1)
theorem d_one {op : BoolOp} (ha : DE c X W a f) : DE c X W (.BoolOp op [a] pos) f := by obtain ⟨t, p, s⟩ := ha; exact ⟨t, pe_one p, s⟩
theorem d_and {rest : List Expr} (ha : DE c X W a f) (hb : DE c X W (.BoolOp .And (b :: rest) pos) g) : DE c X W (.BoolOp .And (a :: b :: rest) pos) (mAndV f g) := by
  obtain ⟨t, p, s⟩ := ha
  obtain ⟨u, q, s'⟩ := hb
  exact ⟨_, pe_and p q, sem_andV s s'⟩
theorem d_or {rest : List Expr} (ha : DE c X W a f) (hb : DE c X W (.BoolOp .Or (b :: rest) pos) g) : DE c X W (.BoolOp .Or (a :: b :: rest) pos) (mOrV f g) := by
  obtain ⟨t, p, s⟩ := ha
  obtain ⟨u, q, s'⟩ := hb
  exact ⟨_, pe_or p q, sem_orV s s'⟩
theorem d_not (ha : DE c X W a f) : DE c X W (.UnaryOp .Not a pos) (mNotV f) := by
  obtain ⟨t, p, s⟩ := ha
  refine ⟨_, pe_not p, ?_⟩
  intro O A σ H st r Q h
  refine s O A σ H st r _ (Wp.mono (Wp.bind h) ?_)
  intro d s1 H1 _ f1 r1 w1 v q
  have w1 : Wp c W O A σ H1 (lift ((asB d).map fun b => PyData.bool !b) s1) (PV c O Q) := w1
  cases e : asB d with
  | none => rw [e] at w1; exact w1.elim
  | some k =>
    rw [e] at w1
    have z := asB_some e
    subst z
    exact ⟨k, dp_bool q, w1 H1 (Stp.refl _ _) r1 _ (.bl _)⟩
theorem d_if {t : Expr} (ht : DT c X W t ft) (ha : DE c X W a f) (hb : DE c X W b g) : DE c X W (.IfExp t a b pos) (mIf ft f g) := by
  obtain ⟨tt, pt, st⟩ := ht
  obtain ⟨ta, pa, sa⟩ := ha
  obtain ⟨tb, pb, sb⟩ := hb
  refine ⟨_, pe_ifExp pt pa pb, ?_⟩
  intro O A σ H s r Q h
  refine st O A σ H s r _ (Wp.mono (Wp.bind h) ?_)
  intro k s1 H1 _ f1 r1 w1
  cases k with
  | true => exact (if_pos rfl).mpr (sa O A σ H1 s1 r1 Q w1)
  | false => exact (if_neg Bool.false_ne_true).mpr (sb O A σ H1 s1 r1 Q w1)

/-! ### argument lists, displays, calls of built-ins -/
def mNil : M (List D) := fun s => .ok [] s
def mCons (f : M D) (g : M (List D)) : M (List D) := fun s => (f s).bind fun d s1 => (g s1).bind fun ds s2 => .ok (d :: ds) s2
theorem da_nil : DA c X W [] mNil := ⟨_, pa_nil, fun O A σ H s r Q h => h H (Stp.refl _ _) r [] .nil⟩
theorem da_cons {es : List Expr} {gs : M (List D)} (ha : DE c X W a f) (hr : DA c X W es gs) (hs : starEach (a :: es) X.env = (false, eval a X.env) :: starEach es X.env := by rfl) : DA c X W (a :: es) (mCons f gs) := by
  obtain ⟨te, pe, se⟩ := ha
  obtain ⟨ta, pa, sa⟩ := hr
  refine ⟨_, pa_cons pe pa hs, ?_⟩
  intro O A σ H s r Q h
  refine se O A σ H s r _ (Wp.mono (Wp.bind h) ?_)
  intro d s1 H1 _ f1 r1 h1 v q
  refine sa O A σ H1 s1 r1 _ (Wp.mono (Wp.bind h1) ?_)
  intro ds s2 H2 _ f2 r2 h2 vs qs
  exact h2 H2 (Stp.refl _ _) r2 _ (.cons (Sub.dp (f2.fwd r1.sub) q) qs)
def mkT (ds : List D) : Option D := if ds.length ≤ sizeLine then some (.tuple ds) else none
def mkL (ds : List D) : Option D := if ds.length ≤ sizeLine then some (.list ds) else none
theorem dp_newT {O : List Addr} {K : PySem.W.Frag} {H : Hp} {p : Addr} {vs : List V} {ds : List D} (hp : H p = none) (hO : p ∉ O) (q : DpAll K (cut O H) vs ds) : Dp K (cut O (upd H p (.tup vs))) (.ref p) (.tuple ds) := by
  refine .tup (.inl (.inl ?_)) (Sub.dpa (fun a o h _ => ?_) q)
  · rw [cut_out hO]; exact upd_same
  · obtain ⟨h1, h2⟩ := cut_some h
    rw [cut_out h1, upd_ne (ne_of_none h2 hp)]
    exact h2
theorem dp_newL {O : List Addr} {K : PySem.W.Frag} {H : Hp} {p : Addr} {vs : List V} {ds : List D} (hp : H p = none) (hO : p ∉ O) (q : DpAll K (cut O H) vs ds) : Dp K (cut O (upd H p (.lst vs))) (.ref p) (.list ds) := by
  refine .lst (.inl (.inl ?_)) (Sub.dpa (fun a o h _ => ?_) q)
  · rw [cut_out hO]; exact upd_same
  · obtain ⟨h1, h2⟩ := cut_some h
    rw [cut_out h1, upd_ne (ne_of_none h2 hp)]
    exact h2
theorem fresh_of {O : List Addr} {H : Hp} {p : Addr} (al : ∀ a ∈ O, ∃ o, H a = some o ∧ NT o) (hp : H p = none) : p ∉ O := fun q => by
  obtain ⟨o, e, _⟩ := al p q
  rw [hp] at e; cases e
theorem d_tup {es : List Expr} {gs : M (List D)} {x1} (h : DA c X W es gs) : DE c X W (.Tuple es x1 pos) (mMap gs mkT) := by
  obtain ⟨ta, pa, sa⟩ := h
  refine ⟨_, pe_tup pa, ?_⟩
  intro O A σ H s r Q h
  refine sa O A σ H s r _ (Wp.mono (Wp.bind h) ?_)
  intro ds s1 H1 _ f1 r1 h1 vs qs
  unfold mkT at h1
  by_cases hl : ds.length ≤ sizeLine
  · rw [if_pos hl] at h1
    refine ⟨by rw [dpa_len qs]; exact hl, fun p hp => ?_⟩
    exact h1 _ ((Grow.new (c := c) hp).stp A) (r1.grow (Grow.new hp)) _ (dp_newT hp (r1.fresh hp) qs)
  · rw [if_neg hl] at h1; exact h1.elim
theorem d_lst {es : List Expr} {gs : M (List D)} (h : DA c X W es gs) : DE c X W (.List es pos) (mMap gs mkL) := by
  obtain ⟨ta, pa, sa⟩ := h
  refine ⟨_, pe_lst pa, ?_⟩
  intro O A σ H s r Q h
  refine sa O A σ H s r _ (Wp.mono (Wp.bind h) ?_)
  intro ds s1 H1 _ f1 r1 h1 vs qs
  unfold mkL at h1
  by_cases hl : ds.length ≤ sizeLine
  · rw [if_pos hl] at h1
    refine ⟨by rw [dpa_len qs]; exact hl, fun p hp => ?_⟩
    exact h1 _ ((Grow.new (c := c) hp).stp A) (r1.grow (Grow.new hp)) _ (dp_newL hp (r1.fresh hp) qs)
  · rw [if_neg hl] at h1; exact h1.elim
theorem sem_cb {r : List V → Hp → VK → Prop} {op : List D → Option D} {ta : TA} {gs : M (List D)} (ho : OpN c r op) (ha : SemA c W ta gs) : SemE c W (tCB r ta) (mMap gs op) := by
  intro O A σ H s re Q h
  refine ha O A σ H s re _ (Wp.mono (Wp.bind h) ?_)
  intro ds s1 H1 _ f1 r1 h1 vs qs
  cases e : op ds with
  | none => rw [e] at h1; exact h1.elim
  | some d =>
    rw [e] at h1
    refine ho O H1 vs ds d r1.alv e qs Q fun z H' gr qz => ?_
    exact h1 H' (gr.stp A) (r1.grow gr) z qz
theorem d_callB {id : String} {x : Str} {p : Pos} {r : List V → Hp → VK → Prop} {op : List D → Option D} {es : List Expr} {gs : M (List D)} (hc : CallR X (.builtin id) r) (ho : OpN c r op) (hm : X.mg x = none) (hv : bootBuiltins x = some (.builtin id)) (ha : DA c X W (a :: es) gs) (hg : Gl X x := by rfl)
    (hn : x ≠ "__name__" := by decide) (hdb : (x == ("__debug__" : Str)) = false := by decide)
    (he : starEach (a :: es) X.env = (false, eval a X.env) :: starEach es X.env := by rfl) (hpl : (backTo pos (starEach es X.env)).any (·.1) = false := by rfl) : DE c X W (.Call (.Name x p) (a :: es) [] pos) (mMap gs op) := by
  obtain ⟨ta, pa, sa⟩ := ha
  exact ⟨_, pe_callB hc hg hm hv pa hn hdb he hpl, sem_cb ho sa⟩
theorem d_callTy {T : String} {x : Str} {p : Pos} {r : List V → Hp → VK → Prop} {op : List D → Option D} {es : List Expr} {gs : M (List D)} (hc : CallR X (.type T) r) (ho : OpN c r op) (hm : X.mg x = none) (hv : bootBuiltins x = some (.type T)) (ha : DA c X W (a :: es) gs) (hg : Gl X x := by rfl)
    (hn : x ≠ "__name__" := by decide) (hdb : (x == ("__debug__" : Str)) = false := by decide)
    (he : starEach (a :: es) X.env = (false, eval a X.env) :: starEach es X.env := by rfl) (hpl : (backTo pos (starEach es X.env)).any (·.1) = false := by rfl) : DE c X W (.Call (.Name x p) (a :: es) [] pos) (mMap gs op) := by
  obtain ⟨ta, pa, sa⟩ := ha
  exact ⟨_, pe_callTy hc hg hm hv pa hn hdb he hpl, sem_cb ho sa⟩
end
end DL

namespace DL
open PySem PySem.Spec L2
/-! ### statements -/
inductive Out where
  | nx (s : Sts)
  | ret (d : D) (s : Sts)
  | brk (s : Sts)
  | ct (s : Sts)
  | err (x : Str) (s : Sts)
  | bad
abbrev G := Sts → Out
def WpS (c : Cf) (W : WX) (O : List Addr) (H : Hp) (r : Out) (E : Ends) : Prop := match r with
  | .nx s' => ∀ O' A' σ' H', Fwd O H O' H' → Rel c O' A' σ' H' s' → E.nx σ' H'
  | .ret d s' => ∀ O' A' σ' H' v, Fwd O H O' H' → Rel c O' A' σ' H' s' → Dp c.K (cut O' H') v d → E.rt v H'
  | .brk s' => ∀ O' A' σ' H', Fwd O H O' H' → Rel c O' A' σ' H' s' → E.bk σ' H'
  | .ct s' => ∀ O' A' σ' H', Fwd O H O' H' → Rel c O' A' σ' H' s' → E.ct σ' H'
  | .err x s' => ∀ O' A' σ' H', Fwd O H O' H' → Rel c O' A' σ' H' s' → W (.ref (c.ca x)) none σ' H'
  | .bad => False
def SemS (c : Cf) (W : WX) (tu : TS) (g : G) : Prop := ∀ O A σ H s, Rel c O A σ H s → ∀ E : Ends, WpS c W O H (g s) E → tu E σ H
def DS (c : Cf) (X : Cx) (W : WX) (st : Stmt) (g : G) : Prop := ∃ tu, PS X st tu ∧ SemS c W tu g
def DSs (c : Cf) (X : Cx) (W : WX) (sts : List Stmt) (g : G) : Prop := ∃ tu, PSs X sts tu ∧ SemS c W tu g
theorem WpS.fwd {c : Cf} {W : WX} {O O1 : List Addr} {H H1 : Hp} {r : Out} {E : Ends} (f : Fwd O H O1 H1) (h : WpS c W O H r E) : WpS c W O1 H1 r E := by
  cases r with
  | nx s' => exact fun O' A' σ' H' f' q => h O' A' σ' H' (f.trans f') q
  | ret d s' => exact fun O' A' σ' H' v f' q => h O' A' σ' H' v (f.trans f') q
  | brk s' => exact fun O' A' σ' H' f' q => h O' A' σ' H' (f.trans f') q
  | ct s' => exact fun O' A' σ' H' f' q => h O' A' σ' H' (f.trans f') q
  | err x s' => exact fun O' A' σ' H' f' q => h O' A' σ' H' (f.trans f') q
  | bad => exact h
/-- an expression's result, then a statement's end -/
def ex {α : Type} (r : Rs α) (k : α → G) : Out := match r with
  | .ok a s => k a s
  | .err x s => .err x s
  | .bad => .bad
@[simp] theorem ex_ok {α : Type} (a : α) (s : Sts) (k : α → G) : ex (.ok a s) k = k a s := rfl
@[simp] theorem ex_err {α : Type} (x : Str) (s : Sts) (k : α → G) : ex (.err x s : Rs α) k = .err x s := rfl
@[simp] theorem ex_bad {α : Type} (k : α → G) : ex (.bad : Rs α) k = .bad := rfl
theorem wp_ex {α : Type} {c : Cf} {W : WX} {O A : List Addr} {σ : St} {H : Hp} {r : Rs α} {k : α → G} {E : Ends} (hs : ∀ a ∈ A, a ∈ O) (h : WpS c W O H (ex r k) E) :
    Wp c W O A σ H r (fun a s' H' => WpS c W O H' (k a s') E) := by
  cases r with
  | ok a s' => exact fun H' f _ => WpS.fwd (f.fwd hs) h
  | err x s' => exact fun H' f q => h O A σ H' (f.fwd hs) q
  | bad => exact h
def thenG (r : Out) (k : G) : Out := match r with
  | .nx s => k s
  | r => r
@[simp] theorem then_nx (s : Sts) (k : G) : thenG (.nx s) k = k s := rfl
@[simp] theorem then_ret (d : D) (s : Sts) (k : G) : thenG (.ret d s) k = .ret d s := rfl
@[simp] theorem then_brk (s : Sts) (k : G) : thenG (.brk s) k = .brk s := rfl
@[simp] theorem then_ct (s : Sts) (k : G) : thenG (.ct s) k = .ct s := rfl
@[simp] theorem then_err (x : Str) (s : Sts) (k : G) : thenG (.err x s) k = .err x s := rfl
@[simp] theorem then_bad (k : G) : thenG .bad k = .bad := rfl
def sSeq (g h : G) : G := fun s => thenG (g s) h
def sNext : G := fun s => .nx s
def sRet (f : M D) : G := fun s => ex (f s) fun d s1 => .ret d s1
def sRetN : G := fun s => .ret .none s
def sDrop (f : M D) : G := fun s => ex (f s) fun _ s1 => .nx s1
def sIf (t : M Bool) (g h : G) : G := fun s => ex (t s) fun b s1 => if b = true then g s1 else h s1
def sRaise (x : Str) : G := fun s => .err x s
def sBreak : G := fun s => .brk s
def sCont : G := fun s => .ct s
def optG (o : Option Sts) : Out := match o with
  | some s => .nx s
  | none => .bad
@[simp] theorem optG_some (s : Sts) : optG (some s) = .nx s := rfl
@[simp] theorem optG_none : optG none = .bad := rfl
/-- a name that is no owned list takes a value -/
def setD (i : Nat) (d : D) (s : Sts) : Option Sts := match s[i]? with
  | some .un => some (s.set i (.dat d))
  | some (.dat _) => some (s.set i (.dat d))
  | _ => none
abbrev Tg := D → Sts → Option Sts
def tName (i : Nat) : Tg := fun d s => setD i d s
def sAsg (f : M D) (t : Tg) : G := fun s => ex (f s) fun d s1 => optG (t d s1)
theorem Rel.setD {c : Cf} {O A : List Addr} {σ : St} {H : Hp} {s s' : Sts} {i : Nat} {d : D} {v : V} (r : Rel c O A σ H s) (e : setD i d s = some s') (q : Dp c.K (cut O H) v d) : Rel c O A (σ.set i (some v)) H s' := by
  have hi : ∃ x, s[i]? = some x ∧ (∀ ds, x ≠ .own ds) ∧ s' = s.set i (.dat d) := by
    unfold DL.setD at e
    cases z : s[i]? with
    | none => rw [z] at e; cases e
    | some x =>
      rw [z] at e
      cases x with
      | un => exact ⟨_, rfl, (fun _ q => by cases q), (Option.some.inj e).symm⟩
      | dat _ => exact ⟨_, rfl, (fun _ q => by cases q), (Option.some.inj e).symm⟩
      | own _ => cases e
  obtain ⟨x, hx, hn, rfl⟩ := hi
  have hl : i < s.length := (List.getElem?_eq_some_iff.mp hx).1
  have hσ : i < σ.length := by rw [r.len]; exact hl
  have ne : ∀ j y, (s.set i (.dat d))[j]? = some y → (j = i ∧ y = .dat d) ∨ (j ≠ i ∧ s[j]? = some y) := fun j y h => by
    by_cases hj : j = i
    · subst hj
      rw [List.getElem?_set_self hl] at h
      exact .inl ⟨rfl, (Option.some.inj h).symm⟩
    · rw [List.getElem?_set_ne (Ne.symm hj)] at h
      exact .inr ⟨hj, h⟩
  refine ⟨by rw [List.length_set, List.length_set]; exact r.len, r.sub, r.alv, fun j y h => ?_, fun j k ds es l h1 h2 h3 h4 => ?_, r.kp, r.fr, r.z0, r.o0, fun p hp => ?_, r.tb⟩
  · rcases ne j y h with ⟨rfl, rfl⟩ | ⟨hj, h⟩
    · rw [List.getElem?_set_self hσ]
      exact ⟨v, rfl, q⟩
    · rw [List.getElem?_set_ne (Ne.symm hj)]
      exact r.slot j y h
  · rcases ne j _ h1 with ⟨_, z⟩ | ⟨hj, h1⟩
    · cases z
    · rcases ne k _ h2 with ⟨_, z⟩ | ⟨hk, h2⟩
      · cases z
      · rw [List.getElem?_set_ne (Ne.symm hj)] at h3
        rw [List.getElem?_set_ne (Ne.symm hk)] at h4
        exact r.inj j k ds es l h1 h2 h3 h4
  · obtain ⟨h1, h2, ds, h3⟩ := r.pn p hp
    have hne : p.1 ≠ i := fun z => by
      rw [z, hx] at h3
      exact hn ds (Option.some.inj h3)
    refine ⟨h1, ?_, ds, ?_⟩
    · rw [List.getElem?_set_ne (Ne.symm hne)]; exact h2
    · rw [List.getElem?_set_ne (Ne.symm hne)]; exact h3

/-- a target's reading -/
def SameBut (vs : List Nat) (σ σ' : St) : Prop := σ'.length = σ.length ∧ ∀ i, i ∉ vs → σ'[i]? = σ[i]?
def SemG (c : Cf) (g : TG) (vs : List Nat) (t : Tg) : Prop := ∀ O A σ H s, Rel c O A σ H s → ∀ v d s', Dp c.K (cut O H) v d → t d s = some s' → ∀ Q : St → Hp → Prop, (∀ σ', SameBut vs σ σ' → Rel c O A σ' H s' → Q σ' H) → g v σ H Q
def DG (c : Cf) (X : Cx) (e : Expr) (vs : List Nat) (t : Tg) : Prop := ∃ g, PG X e g ∧ SemG c g vs t
section
variable {c : Cf} {X : Cx} {W : WX} {a b : Expr} {f : M D} {ft : M Bool} {g h : G} {pos : Pos} {st : Stmt} {rest : List Stmt}
theorem sem_gname (i : Nat) : SemG c (gName i) [i] (tName i) := fun O A σ H s r v d s' q e Q k => k _ ⟨by rw [List.length_set], fun j hj => List.getElem?_set_ne (fun z => hj (by simp [z]))⟩ (r.setD e q)
theorem dg_name (i : Nat) {x : Str} (hN : X.N.Nodup) (hi : X.N[i]? = some x := by rfl) (hx : Loc X.env.scope x := by first | exact .inl rfl | exact .inr rfl)
    (hf : X.fn x = true ∨ X.env.scope.names.lookup x = some .local := by first | exact .inl rfl | exact .inr rfl) : DG c X (.Name x pos) [i] (tName i) := ⟨_, pg_name hN hi hx hf, sem_gname i⟩
abbrev Tgs := List D → Sts → Option Sts
def tsNil : Tgs := fun ds s => match ds with
  | [] => some s
  | _ => none
def tsCons (t : Tg) (u : Tgs) : Tgs := fun ds s => match ds with
  | d :: r => (t d s).bind (u r)
  | [] => none
def tTupG (n : Nat) (t : Tgs) : Tg := fun d s => match d with
  | .tuple ds => if ds.length = n then t ds s else none
  | _ => none
def SemGs (c : Cf) (g : TGs) (ix : List Nat) (t : Tgs) : Prop := ∀ O A σ H s, Rel c O A σ H s → ∀ vs ds s', DpAll c.K (cut O H) vs ds → t ds s = some s' → ∀ Q : St → Hp → Prop, (∀ σ', SameBut ix σ σ' → Rel c O A σ' H s' → Q σ' H) → g vs σ H Q
def DGs (c : Cf) (X : Cx) (es : List Expr) (ix : List Nat) (t : Tgs) : Prop := ∃ g, PGs X es g ∧ SemGs c g ix t
theorem dgs_nil : DGs c X [] [] tsNil := by
  refine ⟨_, pgs_nil, ?_⟩
  intro O A σ H s r vs ds s' q e Q k
  cases ds with
  | nil =>
    cases q
    have e := Option.some.inj e
    subst e
    exact ⟨rfl, k σ ⟨rfl, fun _ _ => rfl⟩ r⟩
  | cons _ _ => cases e
theorem dgs_cons {es : List Expr} {t : Tg} {u : Tgs} {ix iy : List Nat} (h1 : DG c X a ix t) (h2 : DGs c X es iy u) (hs : (assignEach (a :: es) X.env).map (·.2) = assign a X.env :: (assignEach es X.env).map (·.2) := by rfl) : DGs c X (a :: es) (ix ++ iy) (tsCons t u) := by
  obtain ⟨g1, p1, s1⟩ := h1
  obtain ⟨g2, p2, s2⟩ := h2
  refine ⟨_, pgs_cons p1 p2 hs, ?_⟩
  intro O A σ H s r vs ds s' q e Q k
  cases ds with
  | nil => cases e
  | cons d dr =>
    cases q with
    | cons q1 q2 =>
      have e : (t d s).bind (u dr) = some s' := e
      cases z : t d s with
      | none => rw [z] at e; cases e
      | some sm =>
        rw [z] at e
        refine ⟨_, _, rfl, s1 O A σ H s r _ d sm q1 z _ fun σ1 b1 r1 => ?_⟩
        refine s2 O A σ1 H sm r1 _ dr s' q2 e Q fun σ2 b2 r2 => k σ2 ⟨b2.1.trans b1.1, fun j hj => ?_⟩ r2
        rw [List.mem_append, not_or] at hj
        exact (b2.2 j hj.2).trans (b1.2 j hj.1)
theorem dg_tup {es : List Expr} {k : Nat} {t : Tgs} {n : Nat} {ix : List Nat} (h : DGs c X es ix t) (hc : X.calm = true := by rfl) (hK : c.K = X.K := by rfl)
    (hn : (assignEach es X.env).length = n := by rfl) (hst : (assignEach es X.env).findIdx? (·.1) = none := by rfl) : DG c X (.Tuple es k pos) ix (tTupG n t) := by
  obtain ⟨g, p, sg⟩ := h
  refine ⟨_, pg_tup hc p hn hst, ?_⟩
  intro O A σ H s r v d s' q e Q k
  cases d with
  | tuple ds =>
    obtain ⟨p, xs, rfl, hq, ha⟩ := dp_tup q
    have e : (if ds.length = n then t ds s else none) = some s' := e
    by_cases hl : ds.length = n
    · rw [if_pos hl] at e
      exact ⟨p, xs, rfl, hK ▸ (Sub.cut O H).sqt hq, by rw [dpa_len ha]; exact hl, sg O A σ H s r xs ds s' ha e Q k⟩
    · rw [if_neg hl] at e; cases e
  | none => cases e
  | bool _ => cases e
  | int _ => cases e
  | str _ => cases e
  | list _ => cases e
  | dict _ => cases e

theorem s_nil : DSs c X W [] sNext := ⟨_, pss_nil, fun O A σ H s r E h => h O A σ H (Fwd.refl _ _) r⟩
theorem sem_seq {t u : TS} (h1 : SemS c W t g) (h2 : SemS c W u h) : SemS c W (tSeq t u) (sSeq g h) := by
  intro O A σ H s r E w
  refine h1 O A σ H s r _ ?_
  unfold sSeq at w
  cases z : g s with
  | nx s' =>
    rw [z] at w
    intro O' A' σ' H' f r'
    exact h2 O' A' σ' H' s' r' E (WpS.fwd f w)
  | ret d s' => rw [z] at w; exact w
  | brk s' => rw [z] at w; exact w
  | ct s' => rw [z] at w; exact w
  | err x s' => rw [z] at w; exact w
  | bad => rw [z] at w; exact w
theorem s_cons (h1 : DS c X W st g) (h2 : DSs c X W rest h) : DSs c X W (st :: rest) (sSeq g h) := by
  obtain ⟨t, p, s⟩ := h1
  obtain ⟨u, q, s'⟩ := h2
  exact ⟨_, pss_cons p q, sem_seq s s'⟩
theorem s_one (h1 : DS c X W st g) : DSs c X W [st] g := by
  obtain ⟨t, p, s⟩ := h1
  exact ⟨_, pss_one p, s⟩
theorem s_asg {tg : Expr} {t : Tg} {ix : List Nat} (he : DE c X W a f) (hg : DG c X tg ix t) (hs : swapsWithSole [tg] a pos.line X.env = pure false := by rfl) (hw : swappedStores [tg] a X.env = pure none := by rfl)
    (h1 : (assignEach [tg] X.env).map (·.2) = [assign tg X.env] := by rfl) : DS c X W (.Assign [tg] a pos) (sAsg f t) := by
  obtain ⟨te, pe, se⟩ := he
  obtain ⟨tg, pg, sg⟩ := hg
  refine ⟨_, ps_asg pe pg hs hw h1, ?_⟩
  intro O A σ H s r E w
  refine se O A σ H s r _ (Wp.mono (wp_ex r.sub w) ?_)
  intro d s1 H1 _ f1 r1 w1 v q
  cases z : t d s1 with
  | none => rw [z] at w1; exact w1.elim
  | some s2 =>
    rw [z] at w1
    exact sg O A σ H1 s1 r1 v d s2 q z _ fun σ' _ r' => w1 O A σ' H1 (Fwd.refl _ _) r'
theorem s_ret (he : DE c X W a f) : DS c X W (.Return (some a) pos) (sRet f) := by
  obtain ⟨te, pe, se⟩ := he
  refine ⟨_, ps_ret pe, ?_⟩
  intro O A σ H s r E w
  refine se O A σ H s r _ (Wp.mono (wp_ex r.sub w) ?_)
  intro d s1 H1 _ f1 r1 w1 v q
  exact w1 O A σ H1 v (Fwd.refl _ _) r1 q
theorem s_retN : DS c X W (.Return none pos) sRetN := ⟨_, ps_retN, fun O A σ H s r E w => w O A σ H _ (Fwd.refl _ _) r .non⟩
theorem s_expr (he : DE c X W a f) (hs : swapsWith a none pos.line X.env = pure false := by rfl) : DS c X W (.Expr a pos) (sDrop f) := by
  obtain ⟨te, pe, se⟩ := he
  refine ⟨_, ps_expr pe hs, ?_⟩
  intro O A σ H s r E w
  refine se O A σ H s r _ (Wp.mono (wp_ex r.sub w) ?_)
  intro d s1 H1 _ f1 r1 w1 v q
  exact w1 O A σ H1 (Fwd.refl _ _) r1
theorem s_if {ba bb : List Stmt} (ht : DT c X W a ft) (h1 : DSs c X W ba g) (h2 : DSs c X W bb h) : DS c X W (.If a ba bb pos) (sIf ft g h) := by
  obtain ⟨tt, pt, st⟩ := ht
  obtain ⟨t, p, s1⟩ := h1
  obtain ⟨u, q, s2⟩ := h2
  refine ⟨_, ps_if pt p q, ?_⟩
  intro O A σ H s r E w
  refine st O A σ H s r _ (Wp.mono (wp_ex r.sub w) ?_)
  intro k s' H1 _ f1 r1 w1
  cases k with
  | true => exact (if_pos rfl).mpr (s1 O A σ H1 s' r1 E w1)
  | false => exact (if_neg Bool.false_ne_true).mpr (s2 O A σ H1 s' r1 E w1)
theorem s_pass : DS c X W (.Pass pos) sNext := ⟨_, ps_pass, fun O A σ H s r E h => h O A σ H (Fwd.refl _ _) r⟩
theorem s_break : DS c X W (.Break pos) sBreak := ⟨_, ps_break, fun O A σ H s r E h => h O A σ H (Fwd.refl _ _) r⟩
theorem s_continue : DS c X W (.Continue pos) sCont := ⟨_, ps_continue, fun O A σ H s r E h => h O A σ H (Fwd.refl _ _) r⟩
/-- raise X() -/
theorem pmk_own0 {C : Addr} {bmB : List Value} {B newId initId : String} {x : Str} {p : Pos} (F : ExcBaseFacts B newId initId bmB) (q : PySem.W.excIn X.K C bmB newId = true) (gC : X.mg x = some (.ref C))
    (kC : PySem.W.keepIn X.K (.ref C) = true) (r : Raises X (.ref C)) (hg : Gl X x) (hdb : (x == ("__debug__" : Str)) = false := by decide) :
    PMk X (.Call (.Name x p) [] [] pos) (fun σ H Q => Q (.ref C) none H) := by
  intro pins s σ H Q I h
  refine wpAny_Call_Name_kw (ld_glob I hg gC ?_ hdb)
  refine PySem.W.callWith_K0 (K := X.K) I.kIn kC ?_
  show wpAny _ _ (call (.ref C) ([] : List Value)) _ _ _
  obtain ⟨bm, N, nm, qn, bs, hdct, sn, sub, ab, col, dd, k0, k1, k2, k3, k5, mN, hC, hN, hni, T⟩ := exc_obj I.kIn q
  refine wpAny_call_exc_subT F T hC hN hni (fun h' e hm => ?_) (Nat.zero_le _)
  exact mk_of I hm r h (I.hok.gone hm.new)
/-- what is known of an own error's class -/
structure ExcT (K : PySem.W.Frag) (mg : Str → Option Value) (x : Str) (C : Addr) : Prop where
  g : mg x = some (.ref C)
  x : PySem.W.excIn K C [.type "ValueError", .type "Exception", .type "BaseException", .type "object"] "ValueError.__new__" = true
  k : PySem.W.keepIn K (.ref C) = true
  b : PySem.W.subIn K (.ref C) (.type "BaseException") = some true
  t : PySem.W.typeIn K (.ref C) = some (.type "type")
theorem s_raise {x : Str} {p pos2 : Pos} (T : ExcT X.K X.mg x (c.ca x)) (tk : Takes X W) (hc : X.calm = true := by rfl) (hg : Gl X x := by rfl) (hdb : (x == ("__debug__" : Str)) = false := by decide) :
    DS c X W (.Raise (some (.Call (.Name x p) [] [] pos)) none pos2) (sRaise x) := by
  refine ⟨_, ps_raise hc tk (pmk_own0 PySem.F.excBase_ValueError T.x T.g T.k (raises_own T.b T.t) hg hdb), ?_⟩
  intro O A σ H s r E w
  exact w O A σ H (Fwd.refl _ _) r
end
end DL

namespace DL
open PySem PySem.Spec L2
/-! ### owned lists -/
theorem cut_upd {O : List Addr} {H : Hp} {l : Addr} {o : HO} (h : l ∈ O) : cut O (upd H l o) = cut O H := by
  funext a
  by_cases q : a ∈ O
  · rw [cut_in q, cut_in q]
  · rw [cut_out q, cut_out q, upd_ne (fun z => q (by rw [z]; exact h))]
/-- the owned list of slot i at l has changed, all else stands -/
theorem Rel.chg {c : Cf} {O A : List Addr} {σ : St} {H H' : Hp} {s : Sts} {i : Nat} {l : Addr} {ds es : List D} {us : List V} (r : Rel c O A σ H s) (hi : s[i]? = some (.own ds)) (hσ : σ[i]? = some (some (.ref l))) (hl : l ∈ A)
    (k : ∀ a o, a ≠ l → H a = some o → NT o → H' a = some o) (h' : H' l = some (.lst us)) (q : DpAll c.K (cut O H') us es) (tb : Tbs c.T H') : Rel c O A σ H' (s.set i (.own es)) := by
  have hls : i < s.length := (List.getElem?_eq_some_iff.mp hi).1
  have hlO := r.sub l hl
  have sb : Sub (cut O H) (cut O H') := fun a o e n => by
    obtain ⟨h1, h2⟩ := cut_some e
    rw [cut_out h1]
    exact k a o (fun z => h1 (by rw [z]; exact hlO)) h2 n
  refine ⟨by rw [List.length_set]; exact r.len, r.sub, fun a ha => ?_, fun j y h => ?_, fun j m ds' es' l' h1 h2 h3 h4 => ?_, fun a o e n ha => ?_, r.fr, r.z0, r.o0, fun p hp => ?_, tb⟩
  · by_cases z : a = l
    · rw [z]; exact ⟨_, h', nt_lst⟩
    · obtain ⟨o, e, n⟩ := r.alv a ha
      exact ⟨o, k a o z e n, n⟩
  · by_cases hj : j = i
    · subst hj
      rw [List.getElem?_set_self hls] at h
      cases h
      rw [hσ]
      exact ⟨l, us, rfl, hl, h', q⟩
    · rw [List.getElem?_set_ne (Ne.symm hj)] at h
      have z := r.slot j y h
      cases y with
      | un => trivial
      | dat d => obtain ⟨v, e, q⟩ := z; exact ⟨v, e, sb.dp q⟩
      | own fs =>
        obtain ⟨l', vs, e, a1, a2, q⟩ := z
        refine ⟨l', vs, e, a1, k l' _ (fun z => hj ?_) a2 nt_lst, sb.dpa q⟩
        obtain ⟨l2, vs2, e2, _⟩ := r.own h
        rw [e2] at e
        cases e
        rw [z] at e2
        exact r.inj j i fs ds l h hi e2 hσ
  · have f : ∀ (m : Nat) (fs : List D), (s.set i (.own es))[m]? = some (Sl.own fs) → ∃ fs' : List D, s[m]? = some (.own fs') := fun m fs h => by
      by_cases hm : m = i
      · subst hm; exact ⟨_, hi⟩
      · rw [List.getElem?_set_ne (Ne.symm hm)] at h; exact ⟨_, h⟩
    obtain ⟨f1, g1⟩ := f j _ h1
    obtain ⟨f2, g2⟩ := f m _ h2
    exact r.inj j m f1 f2 l' g1 g2 h3 h4
  · refine k a o (fun z => ?_) (r.kp a o e n ha) n
    rcases r.fr l hl with w | w
    · rw [z] at ha; exact ha w
    · rw [z] at e; exact w o e n
  · obtain ⟨a1, a2, ds', a3⟩ := r.pn p hp
    refine ⟨a1, a2, ?_⟩
    by_cases hm : p.1 = i
    · exact ⟨es, by rw [hm, List.getElem?_set_self hls]⟩
    · exact ⟨ds', by rw [List.getElem?_set_ne (Ne.symm hm)]; exact a3⟩
theorem Tbs.upd {T : List Addr} {H : Hp} {l : Addr} {o u : HO} (t : Tbs T H) (h : H l = some o) (n : NT o) : Tbs T (upd H l u) := fun P hP => by
  obtain ⟨ps, e, q⟩ := t P hP
  refine ⟨ps, ?_, q⟩
  rw [upd_ne (fun z => ?_)]
  · exact e
  · rw [z, h] at e
    exact n ps (Option.some.inj e)
theorem Rel.wr {c : Cf} {O A : List Addr} {σ : St} {H : Hp} {s : Sts} {i : Nat} {l : Addr} {ds es : List D} {vs us : List V} (r : Rel c O A σ H s) (hi : s[i]? = some (.own ds)) (hσ : σ[i]? = some (some (.ref l))) (hl : l ∈ A) (hv : H l = some (.lst vs))
    (q : DpAll c.K (cut O H) us es) : Rel c O A σ (upd H l (.lst us)) (s.set i (.own es)) :=
  r.chg hi hσ hl (fun a o n e _ => by rw [upd_ne n]; exact e) upd_same (by rw [cut_upd (r.sub l hl)]; exact q) (r.tb.upd hv nt_lst)
/-- slot i of the state, an owned list -/
def ownAt (s : Sts) (i : Nat) : Option (List D) := match s[i]? with
  | some (.own ds) => some ds
  | _ => none
theorem ownAt_some {s : Sts} {i : Nat} {ds : List D} (h : ownAt s i = some ds) : s[i]? = some (.own ds) := by
  unfold ownAt at h
  cases z : s[i]? with
  | none => rw [z] at h; cases h
  | some x =>
    rw [z] at h
    cases x with
    | un => cases h
    | dat _ => cases h
    | own _ => cases h; rfl
/-- with the owned list of slot i -/
def onOwn {α : Type} (i : Nat) (k : List D → M α) : M α := fun s => match ownAt s i with
  | some ds => k ds s
  | none => .bad
/-- x.append(e) -/
def sApp (i : Nat) (f : M D) : G := fun s => match ownAt s i with
  | none => .bad
  | some _ => ex (f s) fun d s1 => match ownAt s1 i with
    | some ds => if ds.length < sizeLine then .nx (s1.set i (.own (ds ++ [d]))) else .bad
    | none => .bad
/-- x.pop(0), x.pop() -/
def mPop0 (i : Nat) : M D := fun s => match ownAt s i with
  | some (d :: ds) => .ok d (s.set i (.own ds))
  | _ => .bad
def mPop (i : Nat) : M D := fun s => match ownAt s i with
  | some ds => match ds.getLast? with
    | some d => .ok d (s.set i (.own ds.dropLast))
    | none => .bad
  | none => .bad
/-- a built-in function of an owned list alone -/
def mOwn1 (i : Nat) (op : List D → Option D) : M D := fun s => match ownAt s i with
  | some ds => lift (op [.list ds]) s
  | none => .bad
/-- a two-place operation, the left | right one an owned list -/
def mOwnL (i : Nat) (g : M D) (op : D → D → Option D) : M D := fun s => match ownAt s i with
  | none => .bad
  | some _ => (g s).bind fun d s1 => match ownAt s1 i with
    | some ds => lift (op (.list ds) d) s1
    | none => .bad
def mOwnR (i : Nat) (g : M D) (op : D → D → Option D) : M D := fun s => (g s).bind fun d s1 => match ownAt s1 i with
  | some ds => lift (op d (.list ds)) s1
  | none => .bad
/-- an owned list (its items apart from what is protected) or data -/
def Dq (K : PySem.W.Frag) (O : List Addr) (H : Hp) (v : V) : D → Prop
  | .list ds => ∃ a xs, v = .ref a ∧ SqL K H a xs ∧ DpAll K (cut O H) xs ds
  | d => Dp K (cut O H) v d
theorem Dq.of {K : PySem.W.Frag} {O : List Addr} {H : Hp} {v : V} {d : D} (h : Dp K (cut O H) v d) : Dq K O H v d := by
  cases d with
  | list ds =>
    obtain ⟨a, xs, e, q, r⟩ := dp_list h
    exact ⟨a, xs, e, (Sub.cut O H).sql q, r⟩
  | none => exact h
  | bool _ => exact h
  | int _ => exact h
  | str _ => exact h
  | tuple _ => exact h
  | dict _ => exact h
/-- the same, the operands owned or data -/
def Oq2 (c : Cf) (r : R2) (op : D → D → Option D) : Prop := ∀ O H x y v w d, (∀ a ∈ O, ∃ o, H a = some o ∧ NT o) → op v w = some d → Dq c.K O H x v → Dq c.K O H y w → ∀ Q : VK, (∀ z H', Grow c H H' → Dp c.K (cut O H') z d → Q z H') → r x y H Q
def OqN (c : Cf) (r : List V → Hp → VK → Prop) (op : List D → Option D) : Prop := ∀ O H x v d, (∀ a ∈ O, ∃ o, H a = some o ∧ NT o) → op [v] = some d → Dq c.K O H x v → ∀ Q : VK, (∀ z H', Grow c H H' → Dp c.K (cut O H') z d → Q z H') → r [x] H Q
theorem Oq2.op {c : Cf} {r : R2} {op : D → D → Option D} (h : Oq2 c r op) : Op2 c r op := fun O H x y v w d al e q1 q2 Q k => h O H x y v w d al e (.of q1) (.of q2) Q k
section
variable {c : Cf} {X : Cx} {W : WX} {a b : Expr} {f : M D} {g : G} {pos : Pos}
theorem rel_own {O A : List Addr} {σ : St} {H : Hp} {s : Sts} {i : Nat} {ds : List D} (r : Rel c O A σ H s) (h : ownAt s i = some ds) : ∃ l vs, σ[i]? = some (some (.ref l)) ∧ l ∈ A ∧ H l = some (.lst vs) ∧ DpAll c.K (cut O H) vs ds := r.own (ownAt_some h)
theorem dpa_snoc {K : PySem.W.Frag} {G : Hp} {ds : List D} {vs : List V} {v : V} {d : D} (h : DpAll K G vs ds) (q : Dp K G v d) : DpAll K G (vs ++ [v]) (ds ++ [d]) := dpa_app h (.cons q .nil)
/-- the reading of x.append(e) -/
theorem sem_app (i : Nat) {te : TE} (hK : c.K = X.K) (se : SemE c W te f) : SemS c W (tDrop (tBM X.K "list" rAppend (tVar i) (tCons te tNil))) (sApp i f) := by
  intro O A σ H s r E w
  unfold sApp at w
  cases z : ownAt s i with
  | none => rw [z] at w; exact w.elim
  | some ds0 =>
    rw [z] at w
    obtain ⟨l, vs, hσ, hl, hv, qv⟩ := rel_own r z
    refine ⟨.ref l, hσ, .inl ⟨rfl, vs, SqL.of hv⟩, ?_⟩
    refine se O A σ H s r _ (Wp.mono (wp_ex r.sub w) ?_)
    intro d s1 H1 _ f1 r1 w1 v q
    cases z1 : ownAt s1 i with
    | none => rw [z1] at w1; exact w1.elim
    | some ds =>
      rw [z1] at w1
      obtain ⟨l', vs', hσ', hl', hv', qv'⟩ := rel_own r1 z1
      rw [hσ] at hσ'
      cases hσ'
      by_cases hz : ds.length < sizeLine
      · have w1 : WpS c W O H1 (if ds.length < sizeLine then .nx (s1.set i (.own (ds ++ [d]))) else .bad) E := w1
        rw [if_pos hz] at w1
        refine ⟨l, vs', v, rfl, rfl, hv', by rw [dpa_len qv']; exact hz, ?_⟩
        refine w1 O A σ _ ?_ (r1.wr (ownAt_some z1) hσ hl hv' (dpa_snoc qv' q))
        show Sub (cut O H1) (cut O (upd H1 l _))
        rw [cut_upd (r.sub l hl)]
        exact Sub.refl _
      · have w1 : WpS c W O H1 (if ds.length < sizeLine then .nx (s1.set i (.own (ds ++ [d]))) else .bad) E := w1
        rw [if_neg hz] at w1
        exact w1.elim
theorem s_app (i : Nat) {x : Str} {px papp pe : Pos} (hK : c.K = X.K) (he : DE c X W b f) (hN : X.N[i]? = some x := by rfl) (hv : Vis X.env.scope x := by first | exact Or.inl rfl | exact Or.inr (Or.inl rfl) | exact Or.inr (Or.inr rfl)) (hd : (x == ("__debug__" : Str)) = false := by decide)
    (hcd : (x == ("__classdict__" : Str)) = false := by decide) (hst : starEach [b] X.env = (false, eval b X.env) :: starEach [] X.env := by rfl)
    (hbase : attributeBase (.Name x px) "append" X.env (eval (.Name x px) X.env) = eval (.Name x px) X.env := by rfl)
    (hfew : ((backTo pe (starEach [b] X.env)).all (fun x => !x.1) && (backToKw pe (keywordEach [] X.env)).all (fun x => x.1.isSome)
      && decide ([b].length + ([] : List Keyword).length + (if ([] : List Keyword).isEmpty then 0 else 1) < 30)) = true := by rfl)
    (hline : (papp.endLine == pe.line) = true := by rfl) (hplain : (backTo pe (starEach [] X.env)).any (·.1) = false := by rfl)
    (hs : swapsWith (.Call (.Attribute (.Name x px) "append" papp) [b] [] pe) none pos.line X.env = pure false := by rfl) :
    DS c X W (.Expr (.Call (.Attribute (.Name x px) "append" papp) [b] [] pe) pos) (sApp i f) := by
  obtain ⟨te, pe', se⟩ := he
  exact ⟨_, ps_expr (pe_bm PySem.F.plainAttrs_list PySem.F.slot_list_append PySem.F.type_list_append mt_append (pe_var hN hv hd hcd) (pa_cons pe' pa_nil hst) hbase hfew hline hst hplain) hs, sem_app i hK se⟩
theorem sem_pop0 (i : Nat) (hK : c.K = X.K) : SemE c W (tBM X.K "list" rPopAt (tVar i) (tCons (tC (.int 0)) tNil)) (mPop0 i) := by
  intro O A σ H s r Q w
  unfold mPop0 at w
  cases z : ownAt s i with
  | none => rw [z] at w; exact w.elim
  | some ds0 =>
    rw [z] at w
    obtain ⟨l, vs, hσ, hl, hv, qv⟩ := rel_own r z
    cases ds0 with
    | nil => exact w.elim
    | cons d ds =>
      cases qv with
      | cons q1 q2 =>
        rename_i v vr
        refine ⟨.ref l, hσ, .inl ⟨rfl, _, SqL.of hv⟩, l, v :: vr, 0, 0, v, rfl, rfl, hv, by decide, by decide, ?_, rfl, ?_⟩
        · simp [seqIndex?]
        · refine w (upd H l (.lst ((v :: vr).eraseIdx 0))) (fun a o n e _ => ?_) (r.wr (ownAt_some z) hσ hl hv q2) v ?_
          · rw [upd_ne (fun z => n (by rw [z]; exact hl))]; exact e
          · rw [cut_upd (r.sub l hl)]; exact q1
theorem d_pop0 (i : Nat) {x : Str} {px papp pe p0 : Pos} {j : Nat} (hK : c.K = X.K) (hN : X.N[i]? = some x := by rfl) (hv : Vis X.env.scope x := by first | exact Or.inl rfl | exact Or.inr (Or.inl rfl) | exact Or.inr (Or.inr rfl)) (hd : (x == ("__debug__" : Str)) = false := by decide)
    (hcd : (x == ("__classdict__" : Str)) = false := by decide) (hst : starEach [.Constant (.int 0) j p0] X.env = (false, eval (.Constant (.int 0) j p0) X.env) :: starEach [] X.env := by rfl)
    (hbase : attributeBase (.Name x px) "pop" X.env (eval (.Name x px) X.env) = eval (.Name x px) X.env := by rfl)
    (hfew : ((backTo pe (starEach [.Constant (.int 0) j p0] X.env)).all (fun x => !x.1) && (backToKw pe (keywordEach [] X.env)).all (fun x => x.1.isSome)
      && decide (([.Constant (.int 0) j p0] : List Expr).length + ([] : List Keyword).length + (if ([] : List Keyword).isEmpty then 0 else 1) < 30)) = true := by rfl)
    (hline : (papp.endLine == pe.line) = true := by rfl) (hplain : (backTo pe (starEach [] X.env)).any (·.1) = false := by rfl) :
    DE c X W (.Call (.Attribute (.Name x px) "pop" papp) [.Constant (.int 0) j p0] [] pe) (mPop0 i) :=
  ⟨_, pe_bm PySem.F.plainAttrs_list PySem.F.slot_list_pop PySem.F.type_list_pop mt_popAt (pe_var hN hv hd hcd) (pa_cons pe_int pa_nil hst) hbase hfew hline hst hplain, sem_pop0 i hK⟩
/-- a built-in function of an owned list -/
theorem sem_own1 (i : Nat) {r : List V → Hp → VK → Prop} {op : List D → Option D} (ho : OqN c r op) : SemE c W (tCB r (tCons (tVar i) tNil)) (mOwn1 i op) := by
  intro O A σ H s re Q w
  unfold mOwn1 at w
  cases z : ownAt s i with
  | none => rw [z] at w; exact w.elim
  | some ds =>
    rw [z] at w
    obtain ⟨l, vs, hσ, hl, hv, qv⟩ := rel_own re z
    cases e : op [.list ds] with
    | none =>
      have w : Wp c W O A σ H (lift (op [.list ds]) s) (PV c O Q) := w
      rw [e] at w; exact w.elim
    | some d =>
      have w : Wp c W O A σ H (lift (op [.list ds]) s) (PV c O Q) := w
      rw [e] at w
      refine ⟨.ref l, hσ, ?_⟩
      exact ho O H (.ref l) (.list ds) d re.alv e ⟨l, vs, rfl, SqL.of hv, qv⟩ Q fun u H' gr qz => w H' (gr.stp A) (re.grow gr) u qz
theorem d_callBo (i : Nat) {id : String} {x y : Str} {p py : Pos} {r : List V → Hp → VK → Prop} {op : List D → Option D} (hc : CallR X (.builtin id) r) (ho : OqN c r op) (hm : X.mg x = none) (hbv : bootBuiltins x = some (.builtin id))
    (hN : X.N[i]? = some y := by rfl) (hv : Vis X.env.scope y := by first | exact Or.inl rfl | exact Or.inr (Or.inl rfl) | exact Or.inr (Or.inr rfl)) (hg : Gl X x := by rfl)
    (hn : x ≠ "__name__" := by decide) (hdb : (x == ("__debug__" : Str)) = false := by decide) (hd : (y == ("__debug__" : Str)) = false := by decide) (hcd : (y == ("__classdict__" : Str)) = false := by decide)
    (he : starEach [.Name y py] X.env = (false, eval (.Name y py) X.env) :: starEach [] X.env := by rfl) (hpl : (backTo pos (starEach [] X.env)).any (·.1) = false := by rfl) : DE c X W (.Call (.Name x p) [.Name y py] [] pos) (mOwn1 i op) :=
  ⟨_, pe_callB hc hg hm hbv (pa_cons (pe_var hN hv hd hcd) pa_nil he) hn hdb he hpl, sem_own1 i ho⟩
theorem d_callTyo (i : Nat) {T : String} {x y : Str} {p py : Pos} {r : List V → Hp → VK → Prop} {op : List D → Option D} (hc : CallR X (.type T) r) (ho : OqN c r op) (hm : X.mg x = none) (hbv : bootBuiltins x = some (.type T))
    (hN : X.N[i]? = some y := by rfl) (hv : Vis X.env.scope y := by first | exact Or.inl rfl | exact Or.inr (Or.inl rfl) | exact Or.inr (Or.inr rfl)) (hg : Gl X x := by rfl)
    (hn : x ≠ "__name__" := by decide) (hdb : (x == ("__debug__" : Str)) = false := by decide) (hd : (y == ("__debug__" : Str)) = false := by decide) (hcd : (y == ("__classdict__" : Str)) = false := by decide)
    (he : starEach [.Name y py] X.env = (false, eval (.Name y py) X.env) :: starEach [] X.env := by rfl) (hpl : (backTo pos (starEach [] X.env)).any (·.1) = false := by rfl) : DE c X W (.Call (.Name x p) [.Name y py] [] pos) (mOwn1 i op) :=
  ⟨_, pe_callTy hc hg hm hbv (pa_cons (pe_var hN hv hd hcd) pa_nil he) hn hdb he hpl, sem_own1 i ho⟩
theorem sem_ownL (i : Nat) {r : R2} {op : D → D → Option D} {tb : TE} (ho : Oq2 c r op) (hb : SemE c W tb f) : SemE c W (tOp r (tVar i) tb) (mOwnL i f op) := by
  intro O A σ H s re Q w
  unfold mOwnL at w
  cases z0 : ownAt s i with
  | none => rw [z0] at w; exact w.elim
  | some ds0 =>
    rw [z0] at w
    obtain ⟨l, vs, hσ, hl, hv, qv⟩ := rel_own re z0
    refine ⟨.ref l, hσ, ?_⟩
    refine hb O A σ H s re _ (Wp.mono (Wp.bind w) ?_)
    intro d s1 H1 _ f1 r1 w1 y qy
    cases z : ownAt s1 i with
    | none => rw [z] at w1; exact w1.elim
    | some ds =>
      rw [z] at w1
      obtain ⟨l', vs', hσ', hl', hv', qv'⟩ := rel_own r1 z
      rw [hσ] at hσ'
      cases hσ'
      have w1 : Wp c W O A σ H1 (lift (op (.list ds) d) s1) (PV c O Q) := w1
      cases e : op (.list ds) d with
      | none => rw [e] at w1; exact w1.elim
      | some d' =>
        rw [e] at w1
        exact ho O H1 (.ref l) y (.list ds) d d' r1.alv e ⟨l, vs', rfl, SqL.of hv', qv'⟩ (.of qy) Q fun u H' gr qz => w1 H' (gr.stp A) (r1.grow gr) u qz
theorem sem_ownR (i : Nat) {r : R2} {op : D → D → Option D} {tb : TE} (ho : Oq2 c r op) (hb : SemE c W tb f) : SemE c W (tOp r tb (tVar i)) (mOwnR i f op) := by
  intro O A σ H s re Q w
  refine hb O A σ H s re _ (Wp.mono (Wp.bind w) ?_)
  intro d s1 H1 _ f1 r1 w1 y qy
  cases z : ownAt s1 i with
  | none => rw [z] at w1; exact w1.elim
  | some ds =>
    rw [z] at w1
    obtain ⟨l, vs', hσ', hl', hv', qv'⟩ := rel_own r1 z
    have w1 : Wp c W O A σ H1 (lift (op d (.list ds)) s1) (PV c O Q) := w1
    cases e : op d (.list ds) with
    | none => rw [e] at w1; exact w1.elim
    | some d' =>
      rw [e] at w1
      refine ⟨.ref l, hσ', ?_⟩
      exact ho O H1 y (.ref l) d (.list ds) d' r1.alv e (.of qy) ⟨l, vs', rfl, SqL.of hv', qv'⟩ Q fun u H' gr qz => w1 H' (gr.stp A) (r1.grow gr) u qz
section
variable {x : Str} {px : Pos} {i : Nat}
/-- a comparison whose left | right side is an owned list -/
theorem d_cmpoL (i : Nat) {o : CmpOp} {r : R2} {op : D → D → Option D} (hp : OpR X (compareOp o) r) (ho : Oq2 c r op) (hb : DE c X W b f) (hN : X.N[i]? = some x := by rfl) (hv : Vis X.env.scope x := by first | exact Or.inl rfl | exact Or.inr (Or.inl rfl) | exact Or.inr (Or.inr rfl))
    (hm : behindInMarks o b = false := by first | exact nobehind _ (by decide) (by decide) | rfl) (hd : (x == ("__debug__" : Str)) = false := by decide) (hcd : (x == ("__classdict__" : Str)) = false := by decide) :
    DE c X W (.Compare (.Name x px) [o] [b] pos) (mOwnL i f op) := by
  obtain ⟨tb, pb, sb⟩ := hb
  exact ⟨_, pe_cmpR hp (pe_var hN hv hd hcd) pb hm, sem_ownL i ho sb⟩
theorem d_cmpoR (i : Nat) {o : CmpOp} {r : R2} {op : D → D → Option D} (hp : OpR X (compareOp o) r) (ho : Oq2 c r op) (hb : DE c X W b f) (hN : X.N[i]? = some x := by rfl) (hv : Vis X.env.scope x := by first | exact Or.inl rfl | exact Or.inr (Or.inl rfl) | exact Or.inr (Or.inr rfl))
    (hm : behindInMarks o (.Name x px) = false := by first | exact nobehind _ (by decide) (by decide) | rfl) (hd : (x == ("__debug__" : Str)) = false := by decide) (hcd : (x == ("__classdict__" : Str)) = false := by decide) :
    DE c X W (.Compare b [o] [.Name x px] pos) (mOwnR i f op) := by
  obtain ⟨tb, pb, sb⟩ := hb
  exact ⟨_, pe_cmpR hp pb (pe_var hN hv hd hcd) hm, sem_ownR i ho sb⟩
theorem t_cmpoL (i : Nat) {o : CmpOp} {r : R2} {op : D → D → Option D} (hp : OpR X (compareOp o) r) (ho : Oq2 c r op) (hb : DE c X W b f) (hN : X.N[i]? = some x := by rfl) (hv : Vis X.env.scope x := by first | exact Or.inl rfl | exact Or.inr (Or.inl rfl) | exact Or.inr (Or.inr rfl))
    (hm : behindInMarks o b = false := by first | exact nobehind _ (by decide) (by decide) | rfl) (hd : (x == ("__debug__" : Str)) = false := by decide) (hcd : (x == ("__classdict__" : Str)) = false := by decide) :
    DT c X W (.Compare (.Name x px) [o] [b] pos) (mT (mOwnL i f op)) := by
  obtain ⟨tb, pb, sb⟩ := hb
  exact ⟨_, pt_cmpR hp (pe_var hN hv hd hcd) pb hm, sem_test (sem_ownL i ho sb)⟩
theorem t_cmpoR (i : Nat) {o : CmpOp} {r : R2} {op : D → D → Option D} (hp : OpR X (compareOp o) r) (ho : Oq2 c r op) (hb : DE c X W b f) (hN : X.N[i]? = some x := by rfl) (hv : Vis X.env.scope x := by first | exact Or.inl rfl | exact Or.inr (Or.inl rfl) | exact Or.inr (Or.inr rfl))
    (hm : behindInMarks o (.Name x px) = false := by first | exact nobehind _ (by decide) (by decide) | rfl) (hd : (x == ("__debug__" : Str)) = false := by decide) (hcd : (x == ("__classdict__" : Str)) = false := by decide) :
    DT c X W (.Compare b [o] [.Name x px] pos) (mT (mOwnR i f op)) := by
  obtain ⟨tb, pb, sb⟩ := hb
  exact ⟨_, pt_cmpR hp pb (pe_var hN hv hd hcd) hm, sem_test (sem_ownR i ho sb)⟩
/-- an owned list's item -/
theorem d_ixo (i : Nat) {r : R2} {op : D → D → Option D} (hp : IxR X r) (ho : Oq2 c r op) (hb : DE c X W b f) (hN : X.N[i]? = some x := by rfl) (hv : Vis X.env.scope x := by first | exact Or.inl rfl | exact Or.inr (Or.inl rfl) | exact Or.inr (Or.inr rfl))
    (hs : PlainIx b := by exact fun _ _ => rfl) (hd : (x == ("__debug__" : Str)) = false := by decide) (hcd : (x == ("__classdict__" : Str)) = false := by decide) :
    DE c X W (.Subscript (.Name x px) b pos) (mOwnL i f op) := by
  obtain ⟨tb, pb, sb⟩ := hb
  exact ⟨_, pe_ix hp (pe_var hN hv hd hcd) pb hs, sem_ownL i ho sb⟩
end
/-- data's item -/
theorem d_ix {h : M D} {r : R2} {op : D → D → Option D} (hp : IxR X r) (ho : Oq2 c r op) (ha : DE c X W a h) (hb : DE c X W b f) (hs : PlainIx b := by exact fun _ _ => rfl) : DE c X W (.Subscript a b pos) (mMap2 h f op) := by
  obtain ⟨ta, pa, sa⟩ := ha
  obtain ⟨tb, pb, sb⟩ := hb
  exact ⟨_, pe_ix hp pa pb hs, sem_op ho.op sa sb⟩

/-! ### a new list of one's own -/
/-- the reading ends in a new list of these items -/
def SemF (c : Cf) (W : WX) (te : TE) (f : M (List D)) : Prop := ∀ O A σ H s, Rel c O A σ H s → ∀ Q : VK, Wp c W O A σ H (f s) (fun ds _ H' => ∀ p vs, H' p = none → DpAll c.K (cut O H') vs ds → Q (.ref p) (upd H' p (.lst vs))) → te σ H Q
def DF (c : Cf) (X : Cx) (W : WX) (e : Expr) (f : M (List D)) : Prop := ∃ te, PE X e te ∧ SemF c W te f
def sized (ds : List D) : Option (List D) := if ds.length ≤ sizeLine then some ds else none
theorem f_lst {es : List Expr} {gs : M (List D)} (h : DA c X W es gs) : DF c X W (.List es pos) (mMap gs sized) := by
  obtain ⟨ta, pa, sa⟩ := h
  refine ⟨_, pe_lst pa, ?_⟩
  intro O A σ H s r Q h
  refine sa O A σ H s r _ (Wp.mono (Wp.bind h) ?_)
  intro ds s1 H1 _ f1 r1 h1 vs qs
  unfold sized at h1
  by_cases hl : ds.length ≤ sizeLine
  · rw [if_pos hl] at h1
    exact ⟨by rw [dpa_len qs]; exact hl, fun p hp => h1 H1 (Stp.refl _ _) r1 p vs hp qs⟩
  · rw [if_neg hl] at h1; exact h1.elim
def mL (f : M (List D)) : M D := fun s => (f s).bind fun ds s1 => .ok (.list ds) s1
/-- as data -/
theorem d_of {fs : M (List D)} (h : DF c X W a fs) : DE c X W a (mL fs) := by
  obtain ⟨te, pe, se⟩ := h
  refine ⟨te, pe, ?_⟩
  intro O A σ H s r Q h
  refine se O A σ H s r _ (Wp.mono (Wp.bind h) ?_)
  intro ds s1 H1 _ f1 r1 h1 p vs hp qs
  exact h1 _ ((Grow.new (c := c) hp).stp A) (r1.grow (Grow.new hp)) _ (dp_newL hp (r1.fresh hp) qs)
/-- a name that is no owned list becomes one -/
def setO (i : Nat) (ds : List D) (s : Sts) : Option Sts := match s[i]? with
  | some .un => some (s.set i (.own ds))
  | some (.dat _) => some (s.set i (.own ds))
  | _ => none
def sOwn (i : Nat) (f : M (List D)) : G := fun s => ex (f s) fun ds s1 => optG (setO i ds s1)
theorem Rel.setO {O A : List Addr} {σ : St} {H : Hp} {s s' : Sts} {i : Nat} {ds : List D} {p : Addr} {vs : List V} (r : Rel c O A σ H s) (e : setO i ds s = some s') (hp : H p = none) (q : DpAll c.K (cut O H) vs ds) :
    Rel c (p :: O) (p :: A) (σ.set i (some (.ref p))) (upd H p (.lst vs)) s' ∧ Fwd O H (p :: O) (upd H p (.lst vs)) := by
  have hi : ∃ x, s[i]? = some x ∧ (∀ ds, x ≠ .own ds) ∧ s' = s.set i (.own ds) := by
    unfold DL.setO at e
    cases z : s[i]? with
    | none => rw [z] at e; cases e
    | some x =>
      rw [z] at e
      cases x with
      | un => exact ⟨_, rfl, (fun _ q => by cases q), (Option.some.inj e).symm⟩
      | dat _ => exact ⟨_, rfl, (fun _ q => by cases q), (Option.some.inj e).symm⟩
      | own _ => cases e
  obtain ⟨x, hx, hn, rfl⟩ := hi
  have hl : i < s.length := (List.getElem?_eq_some_iff.mp hx).1
  have hσ : i < σ.length := by rw [r.len]; exact hl
  have pO := r.fresh hp
  have sb : Sub (cut O H) (cut (p :: O) (upd H p (.lst vs))) := fun a o e n => by
    obtain ⟨h1, h2⟩ := cut_some e
    have hne := ne_of_none h2 hp
    rw [cut_out (by simp [hne, h1]), upd_ne hne]
    exact h2
  have ne : ∀ j y, (s.set i (.own ds))[j]? = some y → (j = i ∧ y = .own ds) ∨ (j ≠ i ∧ s[j]? = some y) := fun j y h => by
    by_cases hj : j = i
    · subst hj
      rw [List.getElem?_set_self hl] at h
      exact .inl ⟨rfl, (Option.some.inj h).symm⟩
    · rw [List.getElem?_set_ne (Ne.symm hj)] at h
      exact .inr ⟨hj, h⟩
  have old : ∀ (j : Nat) (es : List D) (l : Addr), s[j]? = some (.own es) → σ[j]? = some (some (.ref l)) → l ≠ p := fun j es l h1 h2 z => by
    obtain ⟨l', vs', e1, _, e2, _⟩ := r.own h1
    rw [h2] at e1
    cases e1
    rw [z, hp] at e2
    cases e2
  refine ⟨⟨by rw [List.length_set, List.length_set]; exact r.len, fun a ha => ?_, fun a ha => ?_, fun j y h => ?_, fun j k es fs l h1 h2 h3 h4 => ?_, fun a o e n ha => ?_, fun a ha => ?_, r.z0, fun a ha => List.mem_cons_of_mem _ (r.o0 a ha), fun q hq => ?_, fun P hP => ?_⟩, sb⟩
  · rcases List.mem_cons.mp ha with z | z
    · rw [z]; exact List.mem_cons_self
    · exact List.mem_cons_of_mem _ (r.sub a z)
  · rcases List.mem_cons.mp ha with z | z
    · rw [z]; exact ⟨_, upd_same, nt_lst⟩
    · obtain ⟨o, e, n⟩ := r.alv a z
      exact ⟨o, by rw [upd_ne (ne_of_none e hp)]; exact e, n⟩
  · rcases ne j y h with ⟨rfl, rfl⟩ | ⟨hj, h⟩
    · rw [List.getElem?_set_self hσ]
      exact ⟨p, vs, rfl, List.mem_cons_self, upd_same, sb.dpa q⟩
    · rw [List.getElem?_set_ne (Ne.symm hj)]
      have z := r.slot j y h
      cases y with
      | un => trivial
      | dat d => obtain ⟨v, e, q⟩ := z; exact ⟨v, e, sb.dp q⟩
      | own fs =>
        obtain ⟨l, us, e, a1, a2, q⟩ := z
        exact ⟨l, us, e, List.mem_cons_of_mem _ a1, by rw [upd_ne (ne_of_none a2 hp)]; exact a2, sb.dpa q⟩
  · rcases ne j _ h1 with ⟨z1, _⟩ | ⟨hj, h1⟩
    · rcases ne k _ h2 with ⟨z2, _⟩ | ⟨hk, h2⟩
      · rw [z1, z2]
      · rw [z1, List.getElem?_set_self hσ] at h3
        cases h3
        rw [List.getElem?_set_ne (Ne.symm hk)] at h4
        exact absurd rfl (old k fs _ h2 h4)
    · rw [List.getElem?_set_ne (Ne.symm hj)] at h3
      rcases ne k _ h2 with ⟨z2, _⟩ | ⟨hk, h2⟩
      · rw [z2, List.getElem?_set_self hσ] at h4
        cases h4
        exact absurd rfl (old j es _ h1 h3)
      · rw [List.getElem?_set_ne (Ne.symm hk)] at h4
        exact r.inj j k es fs l h1 h2 h3 h4
  · have h := r.kp a o e n ha
    rw [upd_ne (ne_of_none h hp)]
    exact h
  · rcases List.mem_cons.mp ha with z | z
    · rw [z]
      by_cases hz : p ∈ c.A0
      · exact .inl hz
      · refine .inr fun o h0 hn => ?_
        have := r.kp p o h0 hn hz
        rw [hp] at this; cases this
    · exact r.fr a z
  · obtain ⟨h1, h2, es, h3⟩ := r.pn q hq
    have hne : q.1 ≠ i := fun z => by
      rw [z, hx] at h3
      exact hn es (Option.some.inj h3)
    refine ⟨h1, ?_, es, ?_⟩
    · rw [List.getElem?_set_ne (Ne.symm hne)]; exact h2
    · rw [List.getElem?_set_ne (Ne.symm hne)]; exact h3
  · obtain ⟨ps, e, q⟩ := r.tb P hP
    exact ⟨ps, by rw [upd_ne (ne_of_none e hp)]; exact e, q⟩
end
end DL

namespace DL
open PySem PySem.Spec L2
section
variable {c : Cf} {X : Cx} {W : WX} {a b : Expr} {f : M D} {fs : M (List D)} {g : G} {pos : Pos}
theorem sem_own (i : Nat) {te : TE} (se : SemF c W te fs) : SemS c W (tAsg te (gName i)) (sOwn i fs) := by
  intro O A σ H s r E w
  refine se O A σ H s r _ (Wp.mono (wp_ex r.sub w) ?_)
  intro ds s1 H1 _ f1 r1 w1 p vs hp q
  cases z : setO i ds s1 with
  | none => rw [z] at w1; exact w1.elim
  | some s2 =>
    rw [z] at w1
    obtain ⟨r2, fw⟩ := r1.setO z hp q
    exact w1 _ _ _ _ fw r2
/-- name = a new list that will be changed -/
theorem s_own (i : Nat) {x : Str} {px : Pos} (hN : X.N.Nodup) (he : DF c X W a fs) (hi : X.N[i]? = some x := by rfl) (hx : Loc X.env.scope x := by first | exact .inl rfl | exact .inr rfl) (hs : swapsWith a (some (.Name x px)) pos.line X.env = pure false := by rfl)
    (hf : X.fn x = true ∨ X.env.scope.names.lookup x = some .local := by first | exact .inl rfl | exact .inr rfl) : DS c X W (.Assign [.Name x px] a pos) (sOwn i fs) := by
  obtain ⟨te, pe, se⟩ := he
  exact ⟨_, ps_set hN hi hx pe hs hf, sem_own i se⟩
/-- name = e, one plain name -/
theorem sem_set (i : Nat) {te : TE} (se : SemE c W te f) : SemS c W (tAsg te (gName i)) (sAsg f (tName i)) := by
  intro O A σ H s r E w
  refine se O A σ H s r _ (Wp.mono (wp_ex r.sub w) ?_)
  intro d s1 H1 _ f1 r1 w1 v q
  cases z : tName i d s1 with
  | none => rw [z] at w1; exact w1.elim
  | some s2 =>
    rw [z] at w1
    exact w1 O A _ H1 (Fwd.refl _ _) (r1.setD z q)
theorem s_set (i : Nat) {x : Str} {px : Pos} (hN : X.N.Nodup) (he : DE c X W a f) (hi : X.N[i]? = some x := by rfl) (hx : Loc X.env.scope x := by first | exact .inl rfl | exact .inr rfl) (hs : swapsWith a (some (.Name x px)) pos.line X.env = pure false := by rfl)
    (hf : X.fn x = true ∨ X.env.scope.names.lookup x = some .local := by first | exact .inl rfl | exact .inr rfl) : DS c X W (.Assign [.Name x px] a pos) (sAsg f (tName i)) := by
  obtain ⟨te, pe, se⟩ := he
  exact ⟨_, ps_set hN hi hx pe hs hf, sem_set i se⟩
/-- name op= e -/
def sAug (i : Nat) (f : M D) (op : D → D → Option D) : G := fun s => match s[i]? with
  | some (.dat v) => ex (f s) fun d s1 => match op v d with
    | some z => optG (setD i z s1)
    | none => .bad
  | _ => .bad
theorem s_aug (i : Nat) {x : Str} {px : Pos} {o : Operator} {r : R2} {op : D → D → Option D} (hN : X.N.Nodup) (hp : OpR X (inplaceOp o) r) (ho : Op2 c r op) (he : DE c X W a f) (hi : X.N[i]? = some x := by rfl) (hx : Loc X.env.scope x := by first | exact .inl rfl | exact .inr rfl)
    (hf : X.fn x = true ∨ X.env.scope.names.lookup x = some .local := by first | exact .inl rfl | exact .inr rfl) : DS c X W (.AugAssign (.Name x px) o a pos) (sAug i f op) := by
  obtain ⟨te, pe, se⟩ := he
  refine ⟨_, ps_aug hN hi hx pe hp hf, ?_⟩
  intro O A σ H s re E w
  unfold sAug at w
  cases z0 : s[i]? with
  | none => rw [z0] at w; exact w.elim
  | some y =>
    rw [z0] at w
    cases y with
    | un => exact w.elim
    | own _ => exact w.elim
    | dat v =>
      obtain ⟨vv, hσ, qv⟩ := re.dat z0
      refine ⟨vv, hσ, se O A σ H s re _ (Wp.mono (wp_ex re.sub w) ?_)⟩
      intro d s1 H1 _ f1 r1 w1 u qu
      cases e : op v d with
      | none =>
        have w1 : WpS c W O H1 (match op v d with | some z => optG (setD i z s1) | none => .bad) E := w1
        rw [e] at w1; exact w1.elim
      | some z =>
        have w1 : WpS c W O H1 (match op v d with | some z => optG (setD i z s1) | none => .bad) E := w1
        rw [e] at w1
        refine ho O H1 vv u v d z r1.alv e (Sub.dp (f1.fwd re.sub) qv) qu _ fun zv H' gr qz => ?_
        cases z2 : setD i z s1 with
        | none =>
          have w1 : WpS c W O H1 (optG (setD i z s1)) E := w1
          rw [z2] at w1; exact w1.elim
        | some s2 =>
          have w1 : WpS c W O H1 (optG (setD i z s1)) E := w1
          rw [z2] at w1
          exact w1 O A _ H' (gr.fwd O) ((r1.grow gr).setD z2 qz)
/-- an owned list that is not changed any more: data from here on -/
def frz (i : Nat) (s : Sts) : Sts := match s[i]? with
  | some (.own ds) => s.set i (.dat (.list ds))
  | _ => s
theorem Rel.frz {O A : List Addr} {σ : St} {H : Hp} {s : Sts} (i : Nat) (hi : c.np ≤ i) (r : Rel c O A σ H s) : ∃ O' A', Rel c O' A' σ H (frz i s) ∧ Fwd O H O' H := by
  unfold DL.frz
  cases z : s[i]? with
  | none => exact ⟨O, A, r, Fwd.refl _ _⟩
  | some x =>
    cases x with
    | un => exact ⟨O, A, r, Fwd.refl _ _⟩
    | dat _ => exact ⟨O, A, r, Fwd.refl _ _⟩
    | own ds =>
      obtain ⟨l, vs, hσ, hl, hv, q⟩ := r.own z
      have hls : i < s.length := (List.getElem?_eq_some_iff.mp z).1
      have mem : ∀ (B : List Addr) a, a ∈ B.filter (fun y => decide (y ≠ l)) ↔ a ∈ B ∧ a ≠ l := fun B a => by simp [List.mem_filter]
      have sb : Sub (cut O H) (cut (O.filter fun y => decide (y ≠ l)) H) := fun a o e n => by
        obtain ⟨h1, h2⟩ := cut_some e
        rw [cut_out (fun w => h1 ((mem O a).mp w).1)]
        exact h2
      have lp : ∀ p ∈ c.pin, p.2 ≠ l := fun p hp w => by
        obtain ⟨h1, h2, es, h3⟩ := r.pn p hp
        rw [w] at h2
        have := r.inj p.1 i es ds l h3 z h2 hσ
        omega
      have lA : l ∉ c.A0 := fun w => by
        obtain ⟨p, hp, e⟩ := List.mem_map.mp w
        exact lp p hp e
      refine ⟨_, A.filter (fun y => decide (y ≠ l)), ⟨by rw [List.length_set]; exact r.len, fun a ha => ?_, fun a ha => r.alv a ((mem O a).mp ha).1, fun j y h => ?_, fun j k es fs' l' h1 h2 h3 h4 => ?_, r.kp, fun a ha => r.fr a ((mem A a).mp ha).1, r.z0, fun a ha => ?_, fun p hp => ?_, r.tb⟩, sb⟩
      · obtain ⟨h1, h2⟩ := (mem A a).mp ha
        exact (mem O a).mpr ⟨r.sub a h1, h2⟩
      · by_cases hj : j = i
        · subst hj
          rw [List.getElem?_set_self hls] at h
          cases h
          rw [hσ]
          refine ⟨.ref l, rfl, .lst (.inl (.inl ?_)) (sb.dpa q)⟩
          rw [cut_out (fun w => ((mem O l).mp w).2 rfl)]
          exact hv
        · rw [List.getElem?_set_ne (Ne.symm hj)] at h
          have y0 := r.slot j y h
          cases y with
          | un => trivial
          | dat d => obtain ⟨v, e, q⟩ := y0; exact ⟨v, e, sb.dp q⟩
          | own es =>
            obtain ⟨l', us, e, a1, a2, q'⟩ := y0
            refine ⟨l', us, e, (mem A l').mpr ⟨a1, fun w => hj ?_⟩, a2, sb.dpa q'⟩
            obtain ⟨l2, vs2, e2, _⟩ := r.own h
            rw [e2] at e
            cases e
            rw [w] at e2
            exact r.inj j i es ds l h z e2 hσ
      · have f : ∀ (m : Nat) (gs : List D), (s.set i (.dat (.list ds)))[m]? = some (Sl.own gs) → s[m]? = some (.own gs) := fun m gs h => by
          by_cases hm : m = i
          · subst hm
            rw [List.getElem?_set_self hls] at h
            cases h
          · rw [List.getElem?_set_ne (Ne.symm hm)] at h; exact h
        exact r.inj j k es fs' l' (f j _ h1) (f k _ h2) h3 h4
      · refine (mem O a).mpr ⟨r.o0 a ha, fun w => ?_⟩
        rcases r.fr l hl with w1 | w1
        · exact lA w1
        · obtain ⟨o, e, n⟩ := r.z0 a ha
          rw [w] at e
          exact w1 o e n
      · obtain ⟨h1, h2, es, h3⟩ := r.pn p hp
        refine ⟨h1, h2, es, ?_⟩
        rw [List.getElem?_set_ne (by omega)]
        exact h3
def sFrz (i : Nat) (g : G) : G := fun s => g (frz i s)
theorem sem_frz (i : Nat) {tu : TS} (hi : c.np ≤ i) (h : SemS c W tu g) : SemS c W tu (sFrz i g) := by
  intro O A σ H s r E w
  obtain ⟨O', A', r', fw⟩ := r.frz i hi
  exact h O' A' σ H _ r' E (WpS.fwd fw w)
theorem s_frz (i : Nat) {st : Stmt} (h : DS c X W st g) (hi : c.np ≤ i := by exact of_decide_eq_true rfl) : DS c X W st (sFrz i g) := by
  obtain ⟨t, p, s⟩ := h
  exact ⟨t, p, sem_frz i hi s⟩
theorem ss_frz (i : Nat) {sts : List Stmt} (h : DSs c X W sts g) (hi : c.np ≤ i := by exact of_decide_eq_true rfl) : DSs c X W sts (sFrz i g) := by
  obtain ⟨t, p, s⟩ := h
  exact ⟨t, p, sem_frz i hi s⟩

/-! ### what is walked -/
structure WalkOk (c : Cf) (J : It) (O : List Addr) (H : Hp) (ds : List D) : Prop where
  go : ∀ (i : Nat) O' H', i < ds.length → Fwd O H O' H' → J.go i H' ∧ ∀ x H'', J.yld i H' x H'' → Grow c H' H'' ∧ ∃ d, ds[i]? = some d ∧ Dp c.K (cut O' H'') x d
  stop : ∀ (i : Nat) O' H', ds.length ≤ i → Fwd O H O' H' → J.stop i H'
def SemI (c : Cf) (W : WX) (wi : TI) (f : M (List D)) : Prop := ∀ O A σ H s, Rel c O A σ H s → ∀ R : It → Hp → Prop, Wp c W O A σ H (f s) (fun ds _ H' => ∀ J, WalkOk c J O H' ds → R J H') → wi σ H R
def DI (c : Cf) (X : Cx) (W : WX) (tg iter : Expr) (f : M (List D)) : Prop := ∃ wi, PI X tg iter wi ∧ SemI c W wi f
def items : D → Option (List D)
  | .list xs => some xs
  | .tuple xs => some xs
  | _ => none
/-- a list or a tuple -/
def iSeq (K : PySem.W.Frag) (tl : TE) : TI := fun σ H R => tl σ H fun x H1 => ∃ a, x = .ref a ∧ (((∃ xs, SqL K H1 a xs) ∧ R (Itl K a) H1) ∨ ((∃ xs, SqT K H1 a xs) ∧ R (Itt K a) H1))
theorem pi_seq {tg l : Expr} {tl : TE} (hl : PE X l tl) : PI X tg l (iSeq X.K tl) := by
  refine ⟨fun pins s σ H R I h => ?_⟩
  refine thn (hl.run pins s σ H _ I h) fun v s1 ⟨x, H1, I1, r1, q1⟩ => ?_
  obtain ⟨p, e, q⟩ := q1
  subst e
  cases r1
  rcases q with ⟨⟨xs, hq⟩, q⟩ | ⟨⟨xs, hq⟩, q⟩
  · obtain ⟨its, rv, pl, hz⟩ := I1.list hq
    refine wpAny_pyIter_list pl.isList ?_
    refine ⟨s1.heap.objs.size, [s1.heap.objs.size], _, _, H1, rfl, I1.kept (t' := s1.toks) fun b o e => Heap.get?_push_of_some _ e, turn_list p _, ⟨_, Heap.get?_push_size _ rfl, rfl, rfl⟩, fun b hb => ?_, q⟩
    have e : b = s1.heap.objs.size := by simpa using hb
    subst e
    exact I1.fpOk (Nat.le_refl _) (I1.hok.fresh (Nat.le_refl _))
  · obtain ⟨its, rv, pl, hz⟩ := I1.tuple hq
    refine wpAny_pyIter_tuple (show s1.heap.IsTuple p its.toArray from pl) ?_
    refine ⟨s1.heap.objs.size, [s1.heap.objs.size], _, _, H1, rfl, I1.kept (t' := s1.toks) fun b o e => Heap.get?_push_of_some _ e, turn_tuple p _, ⟨_, Heap.get?_push_size _ rfl, rfl, rfl⟩, fun b hb => ?_, q⟩
    have e : b = s1.heap.objs.size := by simpa using hb
    subst e
    exact I1.fpOk (Nat.le_refl _) (I1.hok.fresh (Nat.le_refl _))
theorem walk_l {K : PySem.W.Frag} {O : List Addr} {H : Hp} {p : Addr} {xs : List V} {ds : List D} (hK : c.K = K) (h : SqL K (cut O H) p xs) (q : DpAll K (cut O H) xs ds) : WalkOk c (Itl K p) O H ds := by
  have hl := dpa_len q
  subst hK
  refine ⟨fun i O' H' hi fw => ?_, fun i O' H' hi fw => ?_⟩
  · have h' : SqL c.K H' p xs := (Sub.cut O' H').sql (Sub.sql fw h)
    obtain ⟨x, hx⟩ : ∃ x, xs[i]? = some x := ⟨xs[i]'(by omega), List.getElem?_eq_getElem _⟩
    refine ⟨⟨xs, x, h', hx⟩, fun y H'' e => ?_⟩
    obtain ⟨e1, e2⟩ := e
    subst e1
    have e3 := e2 xs h'
    obtain ⟨d, e4, q4⟩ := dpa_getv (Sub.dpa fw q) e3
    exact ⟨Grow.refl _ _, d, e4, q4⟩
  · exact ⟨xs, (Sub.cut O' H').sql (Sub.sql fw h), by omega⟩
theorem walk_t {K : PySem.W.Frag} {O : List Addr} {H : Hp} {p : Addr} {xs : List V} {ds : List D} (hK : c.K = K) (h : SqT K (cut O H) p xs) (q : DpAll K (cut O H) xs ds) : WalkOk c (Itt K p) O H ds := by
  have hl := dpa_len q
  subst hK
  refine ⟨fun i O' H' hi fw => ?_, fun i O' H' hi fw => ?_⟩
  · have h' : SqT c.K H' p xs := (Sub.cut O' H').sqt (Sub.sqt fw h)
    obtain ⟨x, hx⟩ : ∃ x, xs[i]? = some x := ⟨xs[i]'(by omega), List.getElem?_eq_getElem _⟩
    refine ⟨⟨xs, x, h', hx⟩, fun y H'' e => ?_⟩
    obtain ⟨e1, e2⟩ := e
    subst e1
    have e3 := e2 xs h'
    obtain ⟨d, e4, q4⟩ := dpa_getv (Sub.dpa fw q) e3
    exact ⟨Grow.refl _ _, d, e4, q4⟩
  · exact ⟨xs, (Sub.cut O' H').sqt (Sub.sqt fw h), by omega⟩
theorem di_seq {tg : Expr} (he : DE c X W a f) (hK : c.K = X.K := by rfl) : DI c X W tg a (mMap f items) := by
  obtain ⟨te, pe, se⟩ := he
  refine ⟨_, pi_seq pe, ?_⟩
  intro O A σ H s r R w
  refine se O A σ H s r _ (Wp.mono (Wp.bind w) ?_)
  intro d s1 H1 _ f1 r1 w1 v q
  cases d with
  | list ds =>
    obtain ⟨p, xs, rfl, hq, qa⟩ := dp_list q
    exact ⟨p, rfl, .inl ⟨⟨xs, hK ▸ (Sub.cut O H1).sql hq⟩, w1 H1 (Stp.refl _ _) r1 _ (walk_l hK (hK ▸ hq) (hK ▸ qa))⟩⟩
  | tuple ds =>
    obtain ⟨p, xs, rfl, hq, qa⟩ := dp_tup q
    exact ⟨p, rfl, .inr ⟨⟨xs, hK ▸ (Sub.cut O H1).sqt hq⟩, w1 H1 (Stp.refl _ _) r1 _ (walk_t hK (hK ▸ hq) (hK ▸ qa))⟩⟩
  | none => exact w1.elim
  | bool _ => exact w1.elim
  | int _ => exact w1.elim
  | str _ => exact w1.elim
  | dict _ => exact w1.elim
def chars : D → Option (List D)
  | .str x => some (x.cps.toList.map fun k => .str ⟨#[k]⟩)
  | _ => none
theorem di_str {tg : Expr} (he : DE c X W a f) : DI c X W tg a (mMap f chars) := by
  obtain ⟨te, pe, se⟩ := he
  refine ⟨_, pi_str pe, ?_⟩
  intro O A σ H s r R w
  refine se O A σ H s r _ (Wp.mono (Wp.bind w) ?_)
  intro d s1 H1 _ f1 r1 w1 v q
  cases d with
  | str x =>
    have e := dp_str q
    subst e
    refine ⟨x, rfl, w1 H1 (Stp.refl _ _) r1 _ ⟨fun i O' H' hi fw => ?_, fun i O' H' hi fw => ?_⟩⟩
    · have hi' : i < x.cps.size := by simpa using hi
      refine ⟨hi', fun y H'' e => ?_⟩
      obtain ⟨e1, k, e2, e3⟩ := e
      subst e1
      subst e3
      refine ⟨Grow.refl _ _, .str ⟨#[k]⟩, ?_, .str _⟩
      rw [List.getElem?_map, Array.getElem?_toList, e2]
      rfl
    · show x.cps.size ≤ i
      simpa using hi
  | none => exact w1.elim
  | bool _ => exact w1.elim
  | int _ => exact w1.elim
  | list _ => exact w1.elim
  | tuple _ => exact w1.elim
  | dict _ => exact w1.elim
def upto (lo : Int) (n : Nat) : List D := (List.range n).map fun (k : Nat) => PyData.int (lo + (k : Int))
def rng1 : List D → Option (List D)
  | [.int j] => if btw (-(2 ^ 62) - 1) (2 ^ 62) j = true then some (upto 0 j.toNat) else none
  | _ => none
def rng2 : List D → Option (List D)
  | [.int i, .int j] => if (btw (-(2 ^ 62) - 1) (2 ^ 62) i && btw (-(2 ^ 62) - 1) (2 ^ 62) j) = true then some (upto i (j - i).toNat) else none
  | _ => none
theorem upto_len (lo : Int) (n : Nat) : (upto lo n).length = n := by unfold upto; simp
theorem walk_r (O : List Addr) (H : Hp) (lo : Int) (n : Nat) : WalkOk c (Itr lo n) O H (upto lo n) := by
  refine ⟨fun i O' H' hi fw => ?_, fun i O' H' hi fw => ?_⟩
  · rw [upto_len] at hi
    refine ⟨hi, fun y H'' e => ?_⟩
    obtain ⟨e1, e2⟩ := e
    subst e1
    subst e2
    refine ⟨Grow.refl _ _, .int (lo + i), ?_, .int _⟩
    unfold upto
    rw [List.getElem?_map, List.getElem?_range hi]
    rfl
  · rw [upto_len] at hi
    exact hi
theorem dpa_one {K : PySem.W.Frag} {G : Hp} {vs : List V} {d : D} (h : DpAll K G vs [d]) : ∃ v, vs = [v] ∧ Dp K G v d := by
  cases h with
  | cons q r => cases r; exact ⟨_, rfl, q⟩
theorem dpa_two {K : PySem.W.Frag} {G : Hp} {vs : List V} {d e : D} (h : DpAll K G vs [d, e]) : ∃ v u, vs = [v, u] ∧ Dp K G v d ∧ Dp K G u e := by
  cases h with
  | cons q r =>
    obtain ⟨u, rfl, q2⟩ := dpa_one r
    exact ⟨_, _, rfl, q, q2⟩
theorem rng1_some {ds is : List D} (h : rng1 ds = some is) : ∃ j, ds = [.int j] ∧ (-(2 ^ 62) ≤ j ∧ j < 2 ^ 62) ∧ is = upto 0 j.toNat := by
  unfold rng1 at h
  split at h
  · rename_i j
    split at h
    · rename_i hj
      exact ⟨j, rfl, (by have := btw_iff.mp hj; omega), (Option.some.inj h).symm⟩
    · cases h
  · cases h
theorem rng2_some {ds is : List D} (h : rng2 ds = some is) : ∃ i j, ds = [.int i, .int j] ∧ (-(2 ^ 62) ≤ i ∧ i < 2 ^ 62 ∧ -(2 ^ 62) ≤ j ∧ j < 2 ^ 62) ∧ is = upto i (j - i).toNat := by
  unfold rng2 at h
  split at h
  · rename_i i j
    split at h
    · rename_i hj
      obtain ⟨h1, h2⟩ := Bool.and_eq_true_iff.mp hj
      exact ⟨i, j, rfl, (by have := btw_iff.mp h1; have := btw_iff.mp h2; omega), (Option.some.inj h).symm⟩
    · cases h
  · cases h
theorem di_range1 {tg : Expr} {p : Pos} (hm : X.mg "range" = none) (ha : DA c X W [a] fs) (hg : Gl X "range" := by rfl) (hs : starEach [a] X.env = [(false, eval a X.env)] := by rfl) : DI c X W tg (.Call (.Name "range" p) [a] [] pos) (mMap fs rng1) := by
  obtain ⟨ta, pa, sa⟩ := ha
  refine ⟨_, pi_range1 hg hm pa hs, ?_⟩
  intro O A σ H s r R w
  refine sa O A σ H s r _ (Wp.mono (Wp.bind w) ?_)
  intro ds s1 H1 _ f1 r1 w1 vs q
  cases e : rng1 ds with
  | none => rw [e] at w1; exact w1.elim
  | some is =>
    rw [e] at w1
    obtain ⟨j, rfl, hj, rfl⟩ := rng1_some e
    obtain ⟨v, rfl, q1⟩ := dpa_one q
    have e2 := dp_int q1
    subst e2
    exact ⟨j, rfl, hj.1, hj.2, w1 H1 (Stp.refl _ _) r1 _ (walk_r _ _ _ _)⟩
theorem di_range2 {tg : Expr} {p : Pos} (hm : X.mg "range" = none) (ha : DA c X W [a, b] fs) (hg : Gl X "range" := by rfl) (hs : starEach [a, b] X.env = [(false, eval a X.env), (false, eval b X.env)] := by rfl) (hs2 : starEach [b] X.env = [(false, eval b X.env)] := by rfl) :
    DI c X W tg (.Call (.Name "range" p) [a, b] [] pos) (mMap fs rng2) := by
  obtain ⟨ta, pa, sa⟩ := ha
  refine ⟨_, pi_range2 hg hm pa hs hs2, ?_⟩
  intro O A σ H s r R w
  refine sa O A σ H s r _ (Wp.mono (Wp.bind w) ?_)
  intro ds s1 H1 _ f1 r1 w1 vs q
  cases e : rng2 ds with
  | none => rw [e] at w1; exact w1.elim
  | some is =>
    rw [e] at w1
    obtain ⟨i, j, rfl, hj, rfl⟩ := rng2_some e
    obtain ⟨v, u, rfl, q1, q2⟩ := dpa_two q
    have e2 := dp_int q1
    subst e2
    have e3 := dp_int q2
    subst e3
    exact ⟨i, j, rfl, hj, w1 H1 (Stp.refl _ _) r1 _ (walk_r _ _ _ _)⟩

/-! ### for -/
def forG (t : Tg) (body : G) : List D → G
  | [], s => .nx s
  | d :: r, s => match t d s with
    | none => .bad
    | some s1 => match body s1 with
      | .nx s2 => forG t body r s2
      | .ct s2 => forG t body r s2
      | .brk s2 => .nx s2
      | .ret v s2 => .ret v s2
      | .err x s2 => .err x s2
      | .bad => .bad
def sFor (f : M (List D)) (t : Tg) (body : G) : G := fun s => ex (f s) fun ds s1 => forG t body ds s1
theorem s_for {tg iter : Expr} {body : List Stmt} {t : Tg} {ix : List Nat} (hp : PassesOwn (model X.prog X.w) X.A X.env X.xe) (hi : DI c X W tg iter fs) (hg : DG c X tg ix t) (hb : DSs c X W body g) (hc : X.calm = true := by rfl)
    (hs : ∀ x, foldedSetIterable iter X.env x = pure x := by intro _; rfl) : DS c X W (.For tg iter body [] pos) (sFor fs t g) := by
  obtain ⟨wi, pi, si⟩ := hi
  obtain ⟨tg', pg, sg⟩ := hg
  obtain ⟨tb, pb, sb⟩ := hb
  refine ⟨_, ps_for hp hc pi pg pb hs, ?_⟩
  intro O A σ H s r E w
  refine si O A σ H s r _ (Wp.mono (wp_ex r.sub w) ?_)
  intro ds s1 H1 _ f1 r1 w1 J wk
  refine ⟨fun i m σ' H' => m = ds.length - i ∧ i ≤ ds.length ∧ ∃ O' A' s', Fwd O H1 O' H' ∧ Rel c O' A' σ' H' s' ∧ WpS c W O' H' (forG t g (ds.drop i) s') E, ⟨ds.length, by simp, Nat.zero_le _, O, A, s1, Fwd.refl _ _, r1, by rw [List.drop_zero]; exact w1⟩, ?_⟩
  rintro i m σ' H' ⟨rfl, hi, O', A', s', fw, r', w'⟩
  by_cases hlt : i < ds.length
  · refine .inr ?_
    obtain ⟨hgo, hy⟩ := wk.go i O' H' hlt fw
    refine ⟨hgo, fun σ2 H2 => i + 1 ≤ ds.length ∧ ∃ O2 A2 s2, Fwd O H1 O2 H2 ∧ Rel c O2 A2 σ2 H2 s2 ∧ WpS c W O2 H2 (forG t g (ds.drop (i + 1)) s2) E, fun σ2 H2 h => ⟨ds.length - (i + 1), by omega, rfl, h⟩, fun x H2 y => ?_⟩
    obtain ⟨gr, d, hd, qd⟩ := hy x H2 y
    have e : ds.drop i = d :: ds.drop (i + 1) := by
      obtain ⟨h1, h2⟩ := List.getElem?_eq_some_iff.mp hd
      rw [← h2]
      exact List.drop_eq_getElem_cons hlt
    rw [e] at w'
    unfold forG at w'
    cases z : t d s' with
    | none => rw [z] at w'; exact w'.elim
    | some s2 =>
      rw [z] at w'
      have w' := WpS.fwd (gr.fwd O') w'
      refine sg O' A' σ' H2 s' (r'.grow gr) x d s2 qd z _ fun σ2 _ r2 => ?_
      refine sb O' A' σ2 H2 s2 r2 _ ?_
      cases zb : g s2 with
      | nx s3 =>
        have w' : WpS c W O' H2 (forG t g (ds.drop (i + 1)) s3) E := by
          have w' : WpS c W O' H2 (match g s2 with | .nx s2 => forG t g (ds.drop (i + 1)) s2 | .ct s2 => forG t g (ds.drop (i + 1)) s2 | .brk s2 => .nx s2 | .ret v s2 => .ret v s2 | .err x s2 => .err x s2 | .bad => .bad) E := w'
          rw [zb] at w'; exact w'
        intro O3 A3 σ3 H3 f3 r3
        exact ⟨hlt, O3, A3, s3, (fw.trans (gr.fwd O')).trans f3, r3, WpS.fwd f3 w'⟩
      | ct s3 =>
        have w' : WpS c W O' H2 (forG t g (ds.drop (i + 1)) s3) E := by
          have w' : WpS c W O' H2 (match g s2 with | .nx s2 => forG t g (ds.drop (i + 1)) s2 | .ct s2 => forG t g (ds.drop (i + 1)) s2 | .brk s2 => .nx s2 | .ret v s2 => .ret v s2 | .err x s2 => .err x s2 | .bad => .bad) E := w'
          rw [zb] at w'; exact w'
        intro O3 A3 σ3 H3 f3 r3
        exact ⟨hlt, O3, A3, s3, (fw.trans (gr.fwd O')).trans f3, r3, WpS.fwd f3 w'⟩
      | brk s3 =>
        have w' : WpS c W O' H2 (match g s2 with | .nx s2 => forG t g (ds.drop (i + 1)) s2 | .ct s2 => forG t g (ds.drop (i + 1)) s2 | .brk s2 => .nx s2 | .ret v s2 => .ret v s2 | .err x s2 => .err x s2 | .bad => .bad) E := w'
        rw [zb] at w'; exact w'
      | ret v s3 =>
        have w' : WpS c W O' H2 (match g s2 with | .nx s2 => forG t g (ds.drop (i + 1)) s2 | .ct s2 => forG t g (ds.drop (i + 1)) s2 | .brk s2 => .nx s2 | .ret v s2 => .ret v s2 | .err x s2 => .err x s2 | .bad => .bad) E := w'
        rw [zb] at w'; exact w'
      | err y s3 =>
        have w' : WpS c W O' H2 (match g s2 with | .nx s2 => forG t g (ds.drop (i + 1)) s2 | .ct s2 => forG t g (ds.drop (i + 1)) s2 | .brk s2 => .nx s2 | .ret v s2 => .ret v s2 | .err x s2 => .err x s2 | .bad => .bad) E := w'
        rw [zb] at w'; exact w'
      | bad =>
        have w' : WpS c W O' H2 (match g s2 with | .nx s2 => forG t g (ds.drop (i + 1)) s2 | .ct s2 => forG t g (ds.drop (i + 1)) s2 | .brk s2 => .nx s2 | .ret v s2 => .ret v s2 | .err x s2 => .err x s2 | .bad => .bad) E := w'
        rw [zb] at w'; exact w'.elim
  · have e : i = ds.length := by omega
    subst e
    rw [List.drop_length] at w'
    exact .inl ⟨wk.stop _ O' H' (Nat.le_refl _) fw, w' O' A' σ' H' (Fwd.refl _ _) r'⟩
end
end DL

namespace DL
open PySem PySem.Spec L2
/-! ### one reading for all contexts -/
def teB (c : Cf) (W : WX) (f : M D) : TE := fun σ H Q => ∃ O A s, Rel c O A σ H s ∧ Wp c W O A σ H (f s) (PV c O Q)
def ttB (c : Cf) (W : WX) (f : M Bool) : TT := fun σ H Q => ∃ O A s, Rel c O A σ H s ∧ Wp c W O A σ H (f s) (PB Q)
def tgB (c : Cf) (vs : List Nat) (t : Tg) : TG := fun v σ H Q => ∃ O A s d s', Rel c O A σ H s ∧ Dp c.K (cut O H) v d ∧ t d s = some s' ∧ ∀ σ', SameBut vs σ σ' → Rel c O A σ' H s' → Q σ' H
section
variable {c : Cf} {X : Cx} {W : WX} {a b : Expr} {f : M D} {ft : M Bool} {fs : M (List D)} {g : G} {pos : Pos}
theorem de_best (h : DE c X W a f) : PE X a (teB c W f) := by
  obtain ⟨te, pe, se⟩ := h
  refine ⟨fun pins s σ H Q I hq => ?_⟩
  obtain ⟨O, A, st, r, w⟩ := hq
  exact pe.run pins s σ H Q I (se O A σ H st r Q w)
theorem dt_best (h : DT c X W a ft) : PT X a (ttB c W ft) := by
  obtain ⟨te, pe, se⟩ := h
  refine ⟨fun pins s σ H Q I hq => ?_⟩
  obtain ⟨O, A, st, r, w⟩ := hq
  exact pe.run pins s σ H Q I (se O A σ H st r Q w)
theorem dg_best {vs : List Nat} {t : Tg} (h : DG c X a vs t) : PG X a (tgB c vs t) := by
  obtain ⟨tg, pg, sg⟩ := h
  refine ⟨fun pins s σ H v u Q I rv hq => ?_⟩
  obtain ⟨O, A, st, d, s', r, q, e, k⟩ := hq
  exact pg.run pins s σ H v u Q I rv (sg O A σ H st r v d s' q e Q k)
/-- the tests of a comprehension -/
def mYes : M Bool := fun s => .ok true s
def DTs (c : Cf) (X : Cx) (W : WX) (ifs : List Expr) (f : M Bool) : Prop := PTs X ifs (ttB c W f)
theorem dts_nil : DTs c X W [] mYes := by
  refine ⟨fun pins s σ H Q I h => ?_⟩
  obtain ⟨O, A, st, r, w⟩ := h
  exact pts_nil.run pins s σ H Q I (w H (Stp.refl _ _) r)
theorem dts_one (h : DT c X W a ft) : DTs c X W [a] ft := pts_one (dt_best h)

/-! ### comprehensions -/
def wipeS (s : Sts) : List Nat → Sts
  | [] => s
  | v :: vs => (wipeS s vs).set v .un
def putS (s0 s : Sts) : List Nat → Sts
  | [] => s
  | v :: vs => (putS s0 s vs).set v ((s0[v]?).getD .un)
theorem wipeS_len (s : Sts) : ∀ vs, (wipeS s vs).length = s.length
  | [] => rfl
  | v :: vs => by unfold wipeS; rw [List.length_set, wipeS_len s vs]
theorem putS_len (s0 s : Sts) : ∀ vs, (putS s0 s vs).length = s.length
  | [] => rfl
  | v :: vs => by unfold putS; rw [List.length_set, putS_len s0 s vs]
theorem wipeS_in {s : Sts} {i : Nat} : ∀ {vs : List Nat}, i ∈ vs → i < s.length → (wipeS s vs)[i]? = some .un
  | v :: vs, h, hl => by
    unfold wipeS
    by_cases e : v = i
    · subst e
      rw [List.getElem?_set_self (by rw [wipeS_len]; exact hl)]
    · rw [List.getElem?_set_ne e]
      rcases List.mem_cons.mp h with z | z
      · exact absurd z.symm e
      · exact wipeS_in z hl
theorem wipeS_out {s : Sts} {i : Nat} : ∀ {vs : List Nat}, i ∉ vs → (wipeS s vs)[i]? = s[i]?
  | [], _ => rfl
  | v :: vs, h => by
    rw [List.mem_cons, not_or] at h
    unfold wipeS
    rw [List.getElem?_set_ne (Ne.symm h.1)]
    exact wipeS_out h.2
theorem putS_in {s0 s : Sts} {i : Nat} : ∀ {vs : List Nat}, i ∈ vs → i < s.length → (putS s0 s vs)[i]? = some ((s0[i]?).getD .un)
  | v :: vs, h, hl => by
    unfold putS
    by_cases e : v = i
    · subst e
      rw [List.getElem?_set_self (by rw [putS_len]; exact hl)]
    · rw [List.getElem?_set_ne e]
      rcases List.mem_cons.mp h with z | z
      · exact absurd z.symm e
      · exact putS_in z hl
theorem putS_out {s0 s : Sts} {i : Nat} : ∀ {vs : List Nat}, i ∉ vs → (putS s0 s vs)[i]? = s[i]?
  | [], _ => rfl
  | v :: vs, h => by
    rw [List.mem_cons, not_or] at h
    unfold putS
    rw [List.getElem?_set_ne (Ne.symm h.1)]
    exact putS_out h.2
theorem wipe_in {σ : St} {i : Nat} : ∀ {vs : List Nat}, i ∈ vs → i < σ.length → (wipe σ vs)[i]? = some none
  | v :: vs, h, hl => by
    unfold wipe
    by_cases e : v = i
    · subst e
      rw [List.getElem?_set_self (by rw [wipe_length]; exact hl)]
    · rw [List.getElem?_set_ne e]
      rcases List.mem_cons.mp h with z | z
      · exact absurd z.symm e
      · exact wipe_in z hl
theorem wipe_but {σ σ' : St} {vs : List Nat} (h : SameBut vs (wipe σ vs) σ') : wipe σ' vs = wipe σ vs := by
  apply List.ext_getElem?
  intro i
  have hl : σ'.length = σ.length := by rw [h.1, wipe_length]
  by_cases hi : i ∈ vs
  · by_cases hn : i < σ.length
    · rw [wipe_in hi hn, wipe_in hi (by rw [hl]; exact hn)]
    · rw [List.getElem?_eq_none (by rw [wipe_length]; omega), List.getElem?_eq_none (by rw [wipe_length]; omega)]
  · rw [wipe_out hi, wipe_out hi, h.2 i hi, wipe_out hi]
theorem Rel.wipe {O A : List Addr} {σ : St} {H : Hp} {s : Sts} {vs : List Nat} (hv : ∀ v ∈ vs, c.np ≤ v) (r : Rel c O A σ H s) : Rel c O A (wipe σ vs) H (wipeS s vs) := by
  have f : ∀ (j : Nat) (y : Sl), (wipeS s vs)[j]? = some y → (j ∈ vs ∧ y = .un) ∨ (j ∉ vs ∧ s[j]? = some y) := fun j y h => by
    by_cases hj : j ∈ vs
    · have hl : j < s.length := by
        have := (List.getElem?_eq_some_iff.mp h).1
        rw [wipeS_len] at this
        exact this
      rw [wipeS_in hj hl] at h
      exact .inl ⟨hj, (Option.some.inj h).symm⟩
    · rw [wipeS_out hj] at h
      exact .inr ⟨hj, h⟩
  refine ⟨by rw [wipe_length, wipeS_len]; exact r.len, r.sub, r.alv, fun j y h => ?_, fun j k ds es l h1 h2 h3 h4 => ?_, r.kp, r.fr, r.z0, r.o0, fun p hp => ?_, r.tb⟩
  · rcases f j y h with ⟨_, rfl⟩ | ⟨hj, h⟩
    · trivial
    · rw [wipe_out hj]
      exact r.slot j y h
  · rcases f j _ h1 with ⟨_, z⟩ | ⟨hj, h1⟩
    · cases z
    · rcases f k _ h2 with ⟨_, z⟩ | ⟨hk, h2⟩
      · cases z
      · rw [wipe_out hj] at h3
        rw [wipe_out hk] at h4
        exact r.inj j k ds es l h1 h2 h3 h4
  · obtain ⟨h1, h2, ds, h3⟩ := r.pn p hp
    have hn : p.1 ∉ vs := fun z => by
      have := hv _ z
      omega
    exact ⟨h1, by rw [wipe_out hn]; exact h2, ds, by rw [wipeS_out hn]; exact h3⟩
/-- without p -/
def del (p : Addr) (H : Hp) : Hp := fun a => if a = p then none else H a
theorem del_ne {p a : Addr} {H : Hp} (h : a ≠ p) : del p H a = H a := if_neg h
theorem del_same {p : Addr} {H : Hp} : del p H p = none := if_pos rfl
theorem cut_del {O : List Addr} {p : Addr} {H : Hp} : cut O (del p H) = cut (p :: O) H := by
  funext x
  by_cases hx : x ∈ O
  · rw [cut_in hx, cut_in (List.mem_cons_of_mem _ hx)]
  · by_cases e : x = p
    · rw [e, cut_in List.mem_cons_self]
      rw [e] at hx
      rw [cut_out hx, del_same]
    · rw [cut_out hx, cut_out (by simp [e, hx]), del_ne e]
theorem cut_cons {O : List Addr} {H : Hp} {p : Addr} {o : HO} (hp : H p = none) : cut (p :: O) (upd H p o) = cut O H := by
  funext x
  by_cases hx : x ∈ O
  · rw [cut_in hx, cut_in (List.mem_cons_of_mem _ hx)]
  · by_cases e : x = p
    · rw [e, cut_in List.mem_cons_self]
      rw [e] at hx
      rw [cut_out hx, hp]
    · rw [cut_out hx, cut_out (by simp [e, hx]), upd_ne e]
/-- a new thing at p, protected -/
theorem Rel.prot {O A : List Addr} {σ : St} {H : Hp} {s : Sts} {p : Addr} {o : HO} (r : Rel c O A σ H s) (hp : H p = none) (n : NT o) : Rel c (p :: O) A σ (upd H p o) s where
  len := r.len
  sub := fun a ha => List.mem_cons_of_mem _ (r.sub a ha)
  alv := fun a ha => by
    rcases List.mem_cons.mp ha with z | z
    · rw [z]; exact ⟨_, upd_same, n⟩
    · obtain ⟨u, e, m⟩ := r.alv a z
      exact ⟨u, by rw [upd_ne (ne_of_none e hp)]; exact e, m⟩
  slot := fun i x h => by
    have z := r.slot i x h
    cases x with
    | un => trivial
    | dat d => obtain ⟨v, e, q⟩ := z; exact ⟨v, e, by rw [cut_cons hp]; exact q⟩
    | own ds => obtain ⟨l, us, e, a1, a2, q⟩ := z; exact ⟨l, us, e, a1, by rw [upd_ne (ne_of_none a2 hp)]; exact a2, by rw [cut_cons hp]; exact q⟩
  inj := r.inj
  kp := fun a u e m ha => by
    have h := r.kp a u e m ha
    rw [upd_ne (ne_of_none h hp)]
    exact h
  fr := r.fr
  z0 := r.z0
  o0 := fun a ha => List.mem_cons_of_mem _ (r.o0 a ha)
  pn := r.pn
  tb := fun P hP => by
    obtain ⟨ps, e, q⟩ := r.tb P hP
    exact ⟨ps, by rw [upd_ne (ne_of_none e hp)]; exact e, q⟩
/-- what is protected and not owned is written -/
theorem Rel.wrO {O A : List Addr} {σ : St} {H : Hp} {s : Sts} {p : Addr} {o u : HO} (r : Rel c O A σ H s) (hO : p ∈ O) (hA : p ∉ A) (hp : H p = some o) (n : NT o) (n' : NT u) (h0 : ∀ w, c.H0 p = some w → ¬ NT w) : Rel c O A σ (upd H p u) s where
  len := r.len
  sub := r.sub
  alv := fun a ha => by
    by_cases z : a = p
    · rw [z]; exact ⟨_, upd_same, n'⟩
    · obtain ⟨w, e, m⟩ := r.alv a ha
      exact ⟨w, by rw [upd_ne z]; exact e, m⟩
  slot := fun i x h => by
    have z := r.slot i x h
    cases x with
    | un => trivial
    | dat d => obtain ⟨v, e, q⟩ := z; exact ⟨v, e, by rw [cut_upd hO]; exact q⟩
    | own ds => obtain ⟨l, us, e, a1, a2, q⟩ := z; exact ⟨l, us, e, a1, by rw [upd_ne (fun w => hA (by rw [← w]; exact a1))]; exact a2, by rw [cut_upd hO]; exact q⟩
  inj := r.inj
  kp := fun a w e m ha => by
    have h := r.kp a w e m ha
    rw [upd_ne (fun z => ?_)]
    · exact h
    · rw [z] at e; exact h0 w e m
  fr := r.fr
  z0 := r.z0
  o0 := r.o0
  pn := r.pn
  tb := r.tb.upd hp n
def lcG (vs : List Nat) (t : Tg) (test : M Bool) (elt : M D) : List D → M (List D)
  | [], s => .ok [] s
  | d :: r, s => match t d s with
    | none => .bad
    | some s1 => (test s1).bind fun b s2 => if b = true then (elt s2).bind fun x s3 => (lcG vs t test elt r (wipeS s3 vs)).bind fun xs s4 => .ok (x :: xs) s4 else lcG vs t test elt r (wipeS s2 vs)
def noOwn (vs : List Nat) (s : Sts) : Bool := vs.all fun v => match s[v]? with
  | some (.own _) => false
  | some _ => true
  | none => false
def mLc (vs : List Nat) (fi : M (List D)) (t : Tg) (test : M Bool) (elt : M D) : M (List D) := fun s => (fi s).bind fun ds s1 => if noOwn vs s1 = true then match lcG vs t test elt ds (wipeS s1 vs) with
    | .ok xs s2 => if xs.length ≤ sizeLine then .ok xs (putS s1 s2 vs) else .bad
    | _ => .bad
  else .bad
abbrev Wno : WX := fun _ _ _ _ => False
theorem noOwn_not {vs : List Nat} {s : Sts} (h : noOwn vs s = true) {v : Nat} (hv : v ∈ vs) : ∃ x, s[v]? = some x ∧ ∀ ds, x ≠ .own ds := by
  have z := List.all_eq_true.mp h v hv
  cases e : s[v]? with
  | none => rw [e] at z; cases z
  | some x =>
    rw [e] at z
    cases x with
    | un => exact ⟨_, rfl, fun _ q => by cases q⟩
    | dat _ => exact ⟨_, rfl, fun _ q => by cases q⟩
    | own _ => cases z
/-- behind a comprehension: the new list's place taken away -/
theorem Rel.unlc {O A : List Addr} {σ : St} {H1 H' : Hp} {s1 sf : Sts} {p : Addr} {vs : List Nat} (r1 : Rel c O A σ H1 s1) (hp : H1 p = none) (st : Stp A H1 H') (no : noOwn vs s1 = true) (r : Rel c (p :: O) A (L2.wipe σ vs) H' sf) (hv : ∀ v ∈ vs, c.np ≤ v) (hx : ∃ xs, H' p = some (.lst xs)) :
    Rel c O A σ (del p H') (putS s1 sf vs) := by
  have pO := r1.fresh hp
  have ce : cut O (del p H') = cut (p :: O) H' := cut_del
  have at_ : ∀ a, a ≠ p → del p H' a = H' a := fun a h => del_ne h
  have f : ∀ (j : Nat) (y : Sl), (putS s1 sf vs)[j]? = some y → (j ∈ vs ∧ s1[j]? = some y ∧ ∀ ds, y ≠ .own ds) ∨ (j ∉ vs ∧ sf[j]? = some y) := fun j y h => by
    by_cases hj : j ∈ vs
    · have hl : j < sf.length := by
        have := (List.getElem?_eq_some_iff.mp h).1
        rw [putS_len] at this
        exact this
      rw [putS_in hj hl] at h
      obtain ⟨x, e, n⟩ := noOwn_not no hj
      rw [e] at h
      have h := Option.some.inj h
      have h : x = y := h
      subst h
      exact .inl ⟨hj, e, n⟩
    · rw [putS_out hj] at h
      exact .inr ⟨hj, h⟩
  refine ⟨by rw [putS_len, ← r.len, wipe_length], r1.sub, fun a ha => ?_, fun j y h => ?_, fun j k ds es l h1 h2 h3 h4 => ?_, fun a o e n ha => ?_, r1.fr, r1.z0, r1.o0, fun q hq => ?_, fun P hP => ?_⟩
  · have hne : a ≠ p := fun z => pO (by rw [← z]; exact ha)
    rw [at_ a hne]
    exact r.alv a (List.mem_cons_of_mem _ ha)
  · rcases f j y h with ⟨hj, h, n⟩ | ⟨hj, h⟩
    · have z := r1.slot j y h
      cases y with
      | un => trivial
      | own ds => exact absurd rfl (n ds)
      | dat d =>
        obtain ⟨v, e, q⟩ := z
        refine ⟨v, e, ?_⟩
        rw [ce]
        refine Sub.dp (fun a o e n => ?_) q
        obtain ⟨h1, h2⟩ := cut_some e
        rw [cut_out (by simp [h1, ne_of_none h2 hp])]
        exact st a o (fun w => h1 (r1.sub a w)) h2 n
    · have z := r.slot j y h
      rw [wipe_out hj] at z
      cases y with
      | un => trivial
      | dat d => obtain ⟨v, e, q⟩ := z; exact ⟨v, e, by rw [ce]; exact q⟩
      | own ds =>
        obtain ⟨l, us, e, a1, a2, q⟩ := z
        have hne : l ≠ p := fun w => pO (by rw [← w]; exact r1.sub l a1)
        exact ⟨l, us, e, a1, by rw [at_ l hne]; exact a2, by rw [ce]; exact q⟩
  · rcases f j _ h1 with ⟨_, _, n⟩ | ⟨hj, h1⟩
    · exact absurd rfl (n _)
    · rcases f k _ h2 with ⟨_, _, n⟩ | ⟨hk, h2⟩
      · exact absurd rfl (n _)
      · refine r.inj j k ds es l h1 h2 ?_ ?_
        · rw [wipe_out hj]; exact h3
        · rw [wipe_out hk]; exact h4
  · have h1 := r1.kp a o e n ha
    rw [at_ a (ne_of_none h1 hp)]
    exact r.kp a o e n ha
  · obtain ⟨h1, h2, ds, h3⟩ := r.pn q hq
    have hn : q.1 ∉ vs := fun z => by
      have := hv _ z
      omega
    refine ⟨h1, ?_, ds, ?_⟩
    · rw [wipe_out hn] at h2; exact h2
    · rw [putS_out hn]; exact h3
  · obtain ⟨ps, e, q⟩ := r.tb P hP
    obtain ⟨xs, hx⟩ := hx
    refine ⟨ps, ?_, q⟩
    rw [at_ P (fun z => ?_)]
    · exact e
    · rw [z, hx] at e; cases e
theorem sem_lc {wi : TI} {vs : List Nat} {t : Tg} {test : M Bool} {elt : M D} (hv : ∀ v ∈ vs, c.np ≤ v) (si : SemI c W wi fs) : SemF c W (tLc wi (tgB c vs t) (ttB c Wno test) (teB c Wno elt) vs) (mLc vs fs t test elt) := by
  intro O A σ H s r Q w
  refine si O A σ H s r _ (Wp.mono (Wp.bind w) ?_)
  intro ds s1 H1 _ f1 r1 w1 J wk p hp
  by_cases no : noOwn vs s1 = true
  · rw [if_pos no] at w1
    have pO := r1.fresh hp
    have pA : p ∉ A := fun z => pO (r1.sub p z)
    have h0 : ∀ u, c.H0 p = some u → ¬ NT u := fun u e n => by
      by_cases ha : p ∈ c.A0
      · obtain ⟨q, hq, e2⟩ := List.mem_map.mp ha
        obtain ⟨_, h2, es, h3⟩ := r1.pn q hq
        obtain ⟨l', vs', e3, _, e4, _⟩ := r1.own h3
        rw [h2] at e3
        have e3 := Option.some.inj (Option.some.inj e3)
        injection e3 with e3
        rw [← e3, e2, hp] at e4
        cases e4
      · have := r1.kp p u e n ha
        rw [hp] at this; cases this
    cases hr : lcG vs t test elt ds (wipeS s1 vs) with
    | err x s2 => rw [hr] at w1; exact w1.elim
    | bad => rw [hr] at w1; exact w1.elim
    | ok xs sf =>
      rw [hr] at w1
      by_cases hz : xs.length ≤ sizeLine
      · have w1 : Wp c W O A σ H1 (if xs.length ≤ sizeLine then .ok xs (putS s1 sf vs) else .bad) (fun ds _ H' => ∀ p vs, H' p = none → DpAll c.K (cut O H') vs ds → Q (.ref p) (upd H' p (.lst vs))) := w1
        rw [if_pos hz] at w1
        refine ⟨fun i m H' => m = ds.length - i ∧ i ≤ ds.length ∧ ∃ (s' : Sts) (acc : List V) (accd rest : List D), Stp A H1 H' ∧ H' p = some (.lst acc) ∧ Rel c (p :: O) A (wipe σ vs) H' s' ∧ DpAll c.K (cut (p :: O) H') acc accd ∧ lcG vs t test elt (ds.drop i) s' = .ok rest sf ∧ accd ++ rest = xs,
          ⟨ds.length, by simp, Nat.zero_le _, wipeS s1 vs, [], [], xs, fun a o _ e _ => by rw [upd_ne (ne_of_none e hp)]; exact e, upd_same, (r1.wipe hv).prot hp nt_lst, .nil, by rw [List.drop_zero]; exact hr, rfl⟩, ?_⟩
        rintro i m H' ⟨rfl, hi, s', acc, accd, rest, st, hacc, r', qa, hl, hx⟩
        have fw : Fwd O H1 (p :: O) H' := fun a o e n => by
          obtain ⟨h1, h2⟩ := cut_some e
          rw [cut_out (by simp [h1, ne_of_none h2 hp])]
          exact st a o (fun z => h1 (r1.sub a z)) h2 n
        by_cases hlt : i < ds.length
        · refine .inr ?_
          obtain ⟨hgo, hy⟩ := wk.go i (p :: O) H' hlt fw
          refine ⟨hgo, fun H2 => i + 1 ≤ ds.length ∧ ∃ (s' : Sts) (acc : List V) (accd rest : List D), Stp A H1 H2 ∧ H2 p = some (.lst acc) ∧ Rel c (p :: O) A (wipe σ vs) H2 s' ∧ DpAll c.K (cut (p :: O) H2) acc accd ∧ lcG vs t test elt (ds.drop (i + 1)) s' = .ok rest sf ∧ accd ++ rest = xs, fun H2 h => ⟨ds.length - (i + 1), by omega, rfl, h⟩, fun x H2 y => ?_⟩
          obtain ⟨gr, d, hd, qd⟩ := hy x H2 y
          have e : ds.drop i = d :: ds.drop (i + 1) := by
            obtain ⟨h1, h2⟩ := List.getElem?_eq_some_iff.mp hd
            rw [← h2]
            exact List.drop_eq_getElem_cons hlt
          rw [e] at hl
          unfold lcG at hl
          cases z : t d s' with
          | none => rw [z] at hl; cases hl
          | some s2 =>
            rw [z] at hl
            have hl : (test s2).bind (fun b s2 => if b = true then (elt s2).bind fun x s3 => (lcG vs t test elt (ds.drop (i + 1)) (wipeS s3 vs)).bind fun xs s4 => .ok (x :: xs) s4 else lcG vs t test elt (ds.drop (i + 1)) (wipeS s2 vs)) = .ok rest sf := hl
            have hacc2 : H2 p = some (.lst acc) := gr.sub p _ hacc nt_lst
            refine ⟨p :: O, A, s', d, s2, r'.grow gr, qd, z, fun σ2 b2 r2 => ⟨wipe_but b2, ?_⟩⟩
            have wb : wipe σ2 vs = wipe σ vs := wipe_but b2
            refine ⟨p :: O, A, s2, r2, ?_⟩
            cases zt : test s2 with
            | err _ _ => rw [zt] at hl; cases hl
            | bad => rw [zt] at hl; cases hl
            | ok bv s3 =>
              rw [zt] at hl
              intro H3 st3 r3
              have st13 : Stp A H1 H3 := (st.trans (gr.stp A)).trans st3
              have hacc3 : H3 p = some (.lst acc) := st3 p _ pA hacc2 nt_lst
              have cuts : Sub (cut (p :: O) H') (cut (p :: O) H3) := Sub.trans (gr.cut _) (st3.fwd r2.sub)
              cases bv with
              | true =>
                refine (if_pos rfl).mpr ?_
                have hl : (elt s3).bind (fun x s3 => (lcG vs t test elt (ds.drop (i + 1)) (wipeS s3 vs)).bind fun xs s4 => .ok (x :: xs) s4) = .ok rest sf := hl
                refine ⟨p :: O, A, s3, r3, ?_⟩
                cases ze : elt s3 with
                | err _ _ => rw [ze] at hl; cases hl
                | bad => rw [ze] at hl; cases hl
                | ok xd s4 =>
                  rw [ze] at hl
                  have hl : (lcG vs t test elt (ds.drop (i + 1)) (wipeS s4 vs)).bind (fun xs s4 => .ok (xd :: xs) s4) = .ok rest sf := hl
                  intro H4 st4 r4 v qv
                  have hacc4 : H4 p = some (.lst acc) := st4 p _ pA hacc3 nt_lst
                  cases zr : lcG vs t test elt (ds.drop (i + 1)) (wipeS s4 vs) with
                  | err _ _ => rw [zr] at hl; cases hl
                  | bad => rw [zr] at hl; cases hl
                  | ok rs s5 =>
                    rw [zr] at hl
                    have hl : Rs.ok (xd :: rs) s5 = .ok rest sf := hl
                    cases hl
                    have la : acc.length = accd.length := dpa_len qa
                    have tot : accd.length + (rs.length + 1) = xs.length := by rw [← hx]; simp
                    refine ⟨acc, hacc4, by omega, hlt, wipeS s4 vs, acc ++ [v], accd ++ [xd], rs, ?_, upd_same, ?_, ?_, zr, ?_⟩
                    · intro x o hx2 e n
                      rw [upd_ne (ne_of_none e hp)]
                      exact (st13.trans st4) x o hx2 e n
                    · have := (r4.wrO List.mem_cons_self pA hacc4 nt_lst nt_lst h0 (u := .lst (acc ++ [v]))).wipe hv
                      rw [wb] at this
                      exact this
                    · rw [cut_upd List.mem_cons_self]
                      exact dpa_snoc (Sub.dpa (st4.fwd r3.sub) (Sub.dpa cuts qa)) qv
                    · rw [← hx, List.append_assoc]; rfl
              | false =>
                refine (if_neg Bool.false_ne_true).mpr ?_
                have hl : lcG vs t test elt (ds.drop (i + 1)) (wipeS s3 vs) = .ok rest sf := hl
                refine ⟨hlt, wipeS s3 vs, acc, accd, rest, st13, hacc3, ?_, Sub.dpa cuts qa, hl, hx⟩
                have := r3.wipe hv
                rw [wb] at this
                exact this
        · have e : i = ds.length := by omega
          subst e
          rw [List.drop_length] at hl
          have hl : Rs.ok [] s' = .ok rest sf := hl
          cases hl
          refine .inl ⟨wk.stop _ (p :: O) H' (Nat.le_refl _) fw, ?_⟩
          have rr := r1.unlc hp st no r' hv ⟨acc, hacc⟩
          have ee : upd (del p H') p (.lst acc) = H' := by
            funext x
            by_cases hx2 : x = p
            · rw [hx2, upd_same, hacc]
            · rw [upd_ne hx2, del_ne hx2]
          have := w1 (del p H') (fun a o ha e n => by
            rw [del_ne (ne_of_none e hp)]
            exact st a o ha e n) rr p acc del_same (by rw [cut_del, ← hx, List.append_nil]; exact qa)
          rw [ee] at this
          exact this
      · have w1 : Wp c W O A σ H1 (if xs.length ≤ sizeLine then .ok xs (putS s1 sf vs) else .bad) (fun ds _ H' => ∀ p vs, H' p = none → DpAll c.K (cut O H') vs ds → Q (.ref p) (upd H' p (.lst vs))) := w1
        rw [if_neg hz] at w1
        exact w1.elim
  · rw [if_neg no] at w1
    exact w1.elim
abbrev BlkE (c : Cf) (X : Cx) (scope : Scope) (elt : Expr) (f : M D) : Prop := ∀ (s : Shared) (H : Hp) (C : Addr) (cl : List (Str × Addr)) (fp : List Addr), DE c (X.blk s H scope (compEnvC scope cl C X.env) fp) Wno elt f
abbrev BlkT (c : Cf) (X : Cx) (scope : Scope) (ifs : List Expr) (f : M Bool) : Prop := ∀ (s : Shared) (H : Hp) (C : Addr) (cl : List (Str × Addr)) (fp : List Addr), DTs c (X.blk s H scope (compEnvC scope cl C X.env) fp) Wno ifs f
abbrev BlkG (c : Cf) (X : Cx) (scope : Scope) (tg : Expr) (vs : List Nat) (t : Tg) : Prop := ∀ (s : Shared) (H : Hp) (C : Addr) (cl : List (Str × Addr)) (fp : List Addr), DG c (X.blk s H scope (compEnvC scope cl C X.env) fp) tg vs t
/-- [elt for tg in iter if ..]: a new list -/
theorem f_lc {elt tg iter : Expr} {ifs : List Expr} {scope : Scope} {own : List (Str × Nat)} {t : Tg} {test : M Bool} {fe : M D} (hN : X.N.Nodup) (ok : BlkOk X.N X.env.scope scope own) (hi : DI c X W tg iter fs) (hg : BlkG c X scope tg (own.map (·.2)) t) (ht : BlkT c X scope ifs test) (he : BlkE c X scope elt fe)
    (hv : ∀ v ∈ own.map (·.2), c.np ≤ v := by exact of_decide_eq_true rfl) (hc : X.calm = true := by rfl) (hs : ∀ x, foldedSetIterable iter X.env x = pure x := by intro _; rfl) : DF c X W (.ListComp elt [⟨tg, iter, ifs, 0⟩] scope pos) (mLc (own.map (·.2)) fs t test fe) := by
  obtain ⟨wi, pi, si⟩ := hi
  exact ⟨_, pe_lc hc hN pi ok (fun s H C cl fp => dg_best (hg s H C cl fp)) (fun s H C cl fp => ht s H C cl fp) (fun s H C cl fp => de_best (he s H C cl fp)) hs, sem_lc hv si⟩
theorem d_lc {elt tg iter : Expr} {ifs : List Expr} {scope : Scope} {own : List (Str × Nat)} {t : Tg} {test : M Bool} {fe : M D} (hN : X.N.Nodup) (ok : BlkOk X.N X.env.scope scope own) (hi : DI c X W tg iter fs) (hg : BlkG c X scope tg (own.map (·.2)) t) (ht : BlkT c X scope ifs test) (he : BlkE c X scope elt fe)
    (hv : ∀ v ∈ own.map (·.2), c.np ≤ v := by exact of_decide_eq_true rfl) (hc : X.calm = true := by rfl) (hs : ∀ x, foldedSetIterable iter X.env x = pure x := by intro _; rfl) : DE c X W (.ListComp elt [⟨tg, iter, ifs, 0⟩] scope pos) (mL (mLc (own.map (·.2)) fs t test fe)) := d_of (f_lc hN ok hi hg ht he hv hc hs)
theorem sem_ofF {te : TE} (se : SemF c W te fs) : SemE c W te (mL fs) := by
  intro O A σ H s r Q h
  refine se O A σ H s r _ (Wp.mono (Wp.bind h) ?_)
  intro ds s1 H1 _ f1 r1 h1 p vs hp qs
  exact h1 _ ((Grow.new (c := c) hp).stp A) (r1.grow (Grow.new hp)) _ (dp_newL hp (r1.fresh hp) qs)
/-- name = [..] on one line -/
theorem s_setLc (i : Nat) {y : Str} {py spos : Pos} {elt tg iter : Expr} {ifs : List Expr} {scope : Scope} {own : List (Str × Nat)} {t : Tg} {test : M Bool} {fe : M D} (hN : X.N.Nodup) (ok : BlkOk X.N X.env.scope scope own) (hi : DI c X W tg iter fs) (hg : BlkG c X scope tg (own.map (·.2)) t) (ht : BlkT c X scope ifs test) (he : BlkE c X scope elt fe)
    (hsw : swapsWith (.ListComp elt [⟨tg, iter, ifs, 0⟩] scope pos) (some (.Name y py)) spos.line X.env = pure true := by exact sw_true rfl rfl rfl (by decide +kernel))
    (hy : X.N[i]? = some y := by rfl) (hyl : X.env.scope.names.lookup y = some .local := by rfl)
    (hv : ∀ v ∈ own.map (·.2), c.np ≤ v := by exact of_decide_eq_true rfl) (hc : X.calm = true := by rfl) (hs : ∀ x, foldedSetIterable iter X.env x = pure x := by intro _; rfl) :
    DS c X W (.Assign [.Name y py] (.ListComp elt [⟨tg, iter, ifs, 0⟩] scope pos) spos) (sAsg (mL (mLc (own.map (·.2)) fs t test fe)) (tName i)) := by
  obtain ⟨wi, pi, si⟩ := hi
  exact ⟨_, ps_setLc hc hN hy hyl hsw pi ok (fun s H C cl fp => dg_best (hg s H C cl fp)) (fun s H C cl fp => ht s H C cl fp) (fun s H C cl fp => de_best (he s H C cl fp)) hs, sem_set i (sem_ofF (sem_lc hv si))⟩
theorem s_ownLc (i : Nat) {y : Str} {py spos : Pos} {elt tg iter : Expr} {ifs : List Expr} {scope : Scope} {own : List (Str × Nat)} {t : Tg} {test : M Bool} {fe : M D} (hN : X.N.Nodup) (ok : BlkOk X.N X.env.scope scope own) (hi : DI c X W tg iter fs) (hg : BlkG c X scope tg (own.map (·.2)) t) (ht : BlkT c X scope ifs test) (he : BlkE c X scope elt fe)
    (hsw : swapsWith (.ListComp elt [⟨tg, iter, ifs, 0⟩] scope pos) (some (.Name y py)) spos.line X.env = pure true := by exact sw_true rfl rfl rfl (by decide +kernel))
    (hy : X.N[i]? = some y := by rfl) (hyl : X.env.scope.names.lookup y = some .local := by rfl)
    (hv : ∀ v ∈ own.map (·.2), c.np ≤ v := by exact of_decide_eq_true rfl) (hc : X.calm = true := by rfl) (hs : ∀ x, foldedSetIterable iter X.env x = pure x := by intro _; rfl) :
    DS c X W (.Assign [.Name y py] (.ListComp elt [⟨tg, iter, ifs, 0⟩] scope pos) spos) (sOwn i (mLc (own.map (·.2)) fs t test fe)) := by
  obtain ⟨wi, pi, si⟩ := hi
  exact ⟨_, ps_setLc hc hN hy hyl hsw pi ok (fun s H C cl fp => dg_best (hg s H C cl fp)) (fun s H C cl fp => ht s H C cl fp) (fun s H C cl fp => de_best (he s H C cl fp)) hs, sem_own i (sem_lc hv si)⟩
end
end DL

namespace DL
open PySem PySem.Spec L2
/-! ### what a def promises -/
abbrev FnM := Sts → Rs D
structure AfterC (K : PySem.W.Frag) (T : List Addr) (O A : List Addr) (H H' : Hp) (vs : List V) (ss' : Sts) : Prop where
  keep : ∀ a o, H a = some o → NT o → a ∉ A → H' a = some o
  tb : Tbs T H'
  own : ∀ (i : Nat) (ds : List D), ss'[i]? = some (.own ds) → ∃ l us, vs[i]? = some (.ref l) ∧ l ∈ A ∧ H' l = some (.lst us) ∧ DpAll K (cut O H') us ds
structure Before (K : PySem.W.Frag) (T : List Addr) (np : Nat) (O A : List Addr) (H : Hp) (vs : List V) (ss : Sts) : Prop where
  lv : vs.length = np
  ls : ss.length = np
  sub : ∀ a ∈ A, a ∈ O
  alv : ∀ a ∈ O, ∃ o, H a = some o ∧ NT o
  slot : ∀ (i : Nat) (x : Sl), ss[i]? = some x → SlOk K O A H vs[i]? x
  inj : ∀ (i j : Nat) (ds es : List D) (l : Addr), ss[i]? = some (.own ds) → ss[j]? = some (.own es) → vs[i]? = some (.ref l) → vs[j]? = some (.ref l) → i = j
  tb : Tbs T H
def spF (K : PySem.W.Frag) (T : List Addr) (ca : Str → Addr) (np : Nat) (F : FnM) : Sp := fun vs H Q E => ∃ O A ss, Before K T np O A H vs ss ∧ match F ss with
  | .ok d ss' => ∀ v H', AfterC K T O A H H' vs ss' → Dp K (cut O H') v d → Q v H'
  | .err x ss' => ∀ H', AfterC K T O A H H' vs ss' → E (.ref (ca x)) none H'
  | .bad => False
/-- the owned arguments behind a call, the others as they were -/
def outs : Sts → Sts → Sts
  | .own _ :: r, x :: t => x :: outs r t
  | y :: r, _ :: t => y :: outs r t
  | _, _ => []
theorem outs_own : ∀ {ss s' : Sts} {i : Nat} {ds : List D}, (outs ss s')[i]? = some (.own ds) → (∃ es, ss[i]? = some (.own es)) ∧ s'[i]? = some (.own ds)
  | [], _, _, _, h => by simp [outs] at h
  | .un :: r, [], _, _, h => by simp [outs] at h
  | .dat _ :: r, [], _, _, h => by simp [outs] at h
  | .own _ :: r, [], _, _, h => by simp [outs] at h
  | .un :: r, x :: t, 0, _, h => by simp [outs] at h
  | .dat _ :: r, x :: t, 0, _, h => by simp [outs] at h
  | .own es :: r, x :: t, 0, _, h => by simp [outs] at h; exact ⟨⟨es, rfl⟩, by simpa using h⟩
  | .un :: r, x :: t, i + 1, ds, h => by
    obtain ⟨⟨es, a⟩, b⟩ := outs_own (ss := r) (s' := t) (i := i) (ds := ds) (by simpa [outs] using h)
    exact ⟨⟨es, by simpa using a⟩, by simpa using b⟩
  | .dat _ :: r, x :: t, i + 1, ds, h => by
    obtain ⟨⟨es, a⟩, b⟩ := outs_own (ss := r) (s' := t) (i := i) (ds := ds) (by simpa [outs] using h)
    exact ⟨⟨es, by simpa using a⟩, by simpa using b⟩
  | .own _ :: r, x :: t, i + 1, ds, h => by
    obtain ⟨⟨es, a⟩, b⟩ := outs_own (ss := r) (s' := t) (i := i) (ds := ds) (by simpa [outs] using h)
    exact ⟨⟨es, by simpa using a⟩, by simpa using b⟩
/-- a def's body as a function of its arguments; n names in all -/
def run (n : Nat) (g : G) : FnM := fun ss => match g (ss ++ List.replicate (n - ss.length) .un) with
  | .nx s => .ok .none (outs ss s)
  | .ret d s => .ok d (outs ss s)
  | .err x s => .err x (outs ss s)
  | .brk _ => .bad
  | .ct _ => .bad
  | .bad => .bad
def pinOf : Nat → List V → Sts → List (Nat × Addr)
  | i, .ref l :: vs, .own _ :: ss => (i, l) :: pinOf (i + 1) vs ss
  | i, _ :: vs, _ :: ss => pinOf (i + 1) vs ss
  | _, _, _ => []
theorem pin_of : ∀ {vs : List V} {ss : Sts} {k : Nat} {p : Nat × Addr}, p ∈ pinOf k vs ss → ∃ j, p.1 = k + j ∧ vs[j]? = some (.ref p.2) ∧ ∃ ds, ss[j]? = some (.own ds)
  | [], _, _, _, h => by simp [pinOf] at h
  | v :: vs, [], _, _, h => by cases v <;> simp [pinOf] at h
  | v :: vs, x :: ss, k, p, h => by
    have rec_ : p ∈ pinOf (k + 1) vs ss → ∃ j, p.1 = k + j ∧ (v :: vs)[j]? = some (.ref p.2) ∧ ∃ ds, (x :: ss)[j]? = some (.own ds) := fun h => by
      obtain ⟨j, e, a, b⟩ := pin_of h
      exact ⟨j + 1, by omega, by simpa using a, by simpa using b⟩
    cases v with
    | ref l =>
      cases x with
      | own es =>
        rcases List.mem_cons.mp (show p ∈ (k, l) :: pinOf (k + 1) vs ss from h) with z | z
        · subst z
          exact ⟨0, rfl, rfl, es, rfl⟩
        · exact rec_ z
      | un => exact rec_ h
      | dat _ => exact rec_ h
    | non => exact rec_ (by cases x <;> exact h)
    | bl _ => exact rec_ (by cases x <;> exact h)
    | int _ => exact rec_ (by cases x <;> exact h)
    | str _ => exact rec_ (by cases x <;> exact h)
    | byt _ => exact rec_ (by cases x <;> exact h)
    | flt _ => exact rec_ (by cases x <;> exact h)
    | ty _ => exact rec_ (by cases x <;> exact h)
theorem of_pin : ∀ {vs : List V} {ss : Sts} {k j : Nat} {l : Addr} {ds : List D}, vs[j]? = some (.ref l) → ss[j]? = some (.own ds) → (k + j, l) ∈ pinOf k vs ss
  | [], _, _, _, _, _, h, _ => by simp at h
  | _ :: _, [], _, _, _, _, _, h => by simp at h
  | v :: vs, x :: ss, k, 0, l, ds, h1, h2 => by
    simp at h1 h2
    subst h1
    subst h2
    exact List.mem_cons_self
  | v :: vs, x :: ss, k, j + 1, l, ds, h1, h2 => by
    have ih := of_pin (vs := vs) (ss := ss) (k := k + 1) (j := j) (l := l) (ds := ds) (by simpa using h1) (by simpa using h2)
    have e : k + 1 + j = k + (j + 1) := by omega
    rw [e] at ih
    cases v with
    | ref l' => cases x with
      | own es => exact List.mem_cons_of_mem _ ih
      | un => exact ih
      | dat _ => exact ih
    | non => cases x <;> exact ih
    | bl _ => cases x <;> exact ih
    | int _ => cases x <;> exact ih
    | str _ => cases x <;> exact ih
    | byt _ => cases x <;> exact ih
    | flt _ => cases x <;> exact ih
    | ty _ => cases x <;> exact ih
theorem rep_un {n i : Nat} {x : Sl} (h : (List.replicate n Sl.un)[i]? = some x) : x = .un := by
  rw [List.getElem?_replicate] at h
  split at h
  · exact (Option.some.inj h).symm
  · cases h
theorem start_rel {K : PySem.W.Frag} {T : List Addr} {ca : Str → Addr} {np : Nat} {O A : List Addr} {H : Hp} {vs : List V} {ss : Sts} {N : List Str} (b : Before K T np O A H vs ss) (hN : np ≤ N.length) :
    Rel ⟨K, T, ca, np, pinOf 0 vs ss, O, H⟩ O ((pinOf 0 vs ss).map (·.2)) (L2.start N vs) H (ss ++ List.replicate (N.length - ss.length) .un) := by
  have hσ : ∀ i, i < np → (L2.start N vs)[i]? = (vs[i]?).map some := fun i hi => by
    unfold L2.start
    rw [List.getElem?_append_left (by rw [List.length_map, b.lv]; exact hi), List.getElem?_map]
  have hs : ∀ (i : Nat) (x : Sl), (ss ++ List.replicate (N.length - ss.length) Sl.un)[i]? = some x → (i < np ∧ ss[i]? = some x) ∨ x = .un := fun i x h => by
    by_cases hi : i < ss.length
    · rw [List.getElem?_append_left hi] at h
      exact .inl ⟨by rw [← b.ls]; exact hi, h⟩
    · rw [List.getElem?_append_right (by omega)] at h
      exact .inr (rep_un h)
  refine ⟨by unfold L2.start; rw [List.length_append, List.length_append, List.length_map, List.length_replicate, List.length_replicate, b.lv, b.ls], fun a ha => ?_, b.alv, fun i x h => ?_, fun i j ds es l h1 h2 h3 h4 => ?_, fun a o e _ _ => e, fun a ha => .inl ha, b.alv, fun a ha => ha, fun p hp => ?_, b.tb⟩
  · obtain ⟨p, hp, e⟩ := List.mem_map.mp ha
    obtain ⟨j, _, e1, ds, e2⟩ := pin_of hp
    obtain ⟨l, us, e3, e4, _⟩ := b.slot j _ e2
    rw [e1] at e3
    cases e3
    rw [← e]
    exact b.sub _ e4
  · rcases hs i x h with ⟨hi, h⟩ | rfl
    · rw [hσ i hi]
      have z := b.slot i x h
      cases x with
      | un => trivial
      | dat d =>
        obtain ⟨v, e, q⟩ := z
        exact ⟨v, by rw [e]; rfl, q⟩
      | own ds =>
        obtain ⟨l, us, e, a1, a2, q⟩ := z
        refine ⟨l, us, by rw [e]; rfl, ?_, a2, q⟩
        have := of_pin (k := 0) e h
        exact List.mem_map.mpr ⟨_, this, rfl⟩
    · trivial
  · rcases hs i _ h1 with ⟨hi, h1⟩ | z
    · rcases hs j _ h2 with ⟨hj, h2⟩ | z
      · rw [hσ i hi] at h3
        rw [hσ j hj] at h4
        refine b.inj i j ds es l h1 h2 ?_ ?_
        · cases z : vs[i]? with
          | none => rw [z] at h3; cases h3
          | some v => rw [z] at h3; cases h3; rfl
        · cases z : vs[j]? with
          | none => rw [z] at h4; cases h4
          | some v => rw [z] at h4; cases h4; rfl
      · cases z
    · cases z
  · obtain ⟨j, e0, e1, ds, e2⟩ := pin_of hp
    have hj : j < np := by
      have := (List.getElem?_eq_some_iff.mp e1).1
      rw [b.lv] at this
      exact this
    have e0 : p.1 = j := by omega
    rw [e0]
    refine ⟨hj, by rw [hσ j hj, e1]; rfl, ds, ?_⟩
    rw [List.getElem?_append_left (by rw [b.ls]; exact hj)]
    exact e2
theorem after_of {c : Cf} {O A O' A' : List Addr} {H H' : Hp} {vs : List V} {ss s' : Sts} {σ' : St} {np : Nat} (hp : c.pin = pinOf 0 vs ss) (h0 : c.H0 = H) (hO : c.O0 = O) (b : Before c.K c.T np O A H vs ss) (r : Rel c O' A' σ' H' s') : AfterC c.K c.T O A H H' vs (outs ss s') where
  keep := fun a o e n ha => by
    refine r.kp a o (by rw [h0]; exact e) n fun z => ha ?_
    obtain ⟨p, hq, e2⟩ := List.mem_map.mp z
    rw [hp] at hq
    obtain ⟨j, _, e1, ds, e3⟩ := pin_of hq
    obtain ⟨l, us, e4, e5, _⟩ := b.slot j _ e3
    rw [e1] at e4
    cases e4
    rw [← e2]
    exact e5
  tb := r.tb
  own := fun i ds h => by
    obtain ⟨⟨es, h1⟩, h2⟩ := outs_own h
    obtain ⟨l, us, e4, e5, _⟩ := b.slot i _ h1
    have hq : (i, l) ∈ c.pin := by
      rw [hp]
      have := of_pin (k := 0) e4 h1
      rw [Nat.zero_add] at this
      exact this
    obtain ⟨_, g2, _⟩ := r.pn _ hq
    obtain ⟨l', us', g3, g4, g5, g6⟩ := r.own h2
    rw [g2] at g3
    cases g3
    refine ⟨l, us', e4, e5, g5, Sub.dpa (fun a o e n => ?_) g6⟩
    obtain ⟨k1, k2⟩ := cut_some e
    rw [cut_out (fun z => k1 (r.o0 a (by rw [hO]; exact z)))]
    exact k2
section
variable {P : Program} {w : World} {K : PySem.W.Frag} {mg : Str → Option Value} {base : Heap}
abbrev Wfn (E : XK) : WX := fun cls d _ H => E cls d H
/-- a def keeps the promise of its mirror -/
theorem fn_ok {x qual : Str} {st : Stmt} {f : Addr} {fd : FuncData} {N ps : List Str} {k : Nat} {T : List Addr} {ca : Str → Addr} {g : G} {np n : Nat} (F : Fun K x qual st f fd) (S : FnScope N ps (defScope st)) (hnp : ps.length = np) (hn : N.length = n) (hle : np ≤ n)
    (hb : ∀ (pin : List (Nat × Addr)) (O0 : List Addr) (H0 : Hp) (cdv : Value) (A : Around) (outer : List Env) (s : Shared) (H : Hp) (E : XK), Room k (A.deeper (PyProof.Rows.envOfC qual (defScope st) s.heap.objs.size f cdv)) →
      DSs ⟨K, T, ca, np, pin, O0, H0⟩ (cxOf (L2.CX P w) P w K mg base N qual (defScope st) f cdv A outer s H E) (Wfn E) (defBody st) g) : FnOk P w K mg base (L2.CX P w) (k + 1) f fd ps (spF K T ca np (run n g)) := by
  refine F.okX S (fun vs H Q E h => ?_) (fun cdv A outer s H vs Q E hr h => ?_)
  · obtain ⟨O, A, ss, b, _⟩ := h
    rw [b.lv, hnp]
  · obtain ⟨O, A', ss, b, h⟩ := h
    obtain ⟨tu, pu, su⟩ := hb (pinOf 0 vs ss) O H cdv A outer s H E hr
    refine ⟨tu, pu, ?_⟩
    have rel := start_rel (ca := ca) (N := N) b (by omega)
    refine su O _ (L2.start N vs) H _ rel _ ?_
    have after : ∀ O' A'' σ' H' s', Rel ⟨K, T, ca, np, pinOf 0 vs ss, O, H⟩ O' A'' σ' H' s' → AfterC K T O A' H H' vs (outs ss s') := fun O' A'' σ' H' s' r => after_of rfl rfl rfl b r
    have down : ∀ O' A'' σ' H' s' v d, Rel ⟨K, T, ca, np, pinOf 0 vs ss, O, H⟩ O' A'' σ' H' s' → Dp K (cut O' H') v d → Dp K (cut O H') v d := fun O' A'' σ' H' s' v d r q => by
      refine Sub.dp (fun a o e n => ?_) q
      obtain ⟨k1, k2⟩ := cut_some e
      rw [cut_out (fun z => k1 (r.o0 a z))]
      exact k2
    unfold run at h
    rw [hn]
    cases z : g (ss ++ List.replicate (n - ss.length) .un) with
    | nx s' =>
      rw [z] at h
      intro O' A'' σ' H' _ r
      exact h _ _ (after _ _ _ _ _ r) .non
    | ret d s' =>
      rw [z] at h
      intro O' A'' σ' H' v _ r q
      exact h _ _ (after _ _ _ _ _ r) (down _ _ _ _ _ _ _ r q)
    | err y s' =>
      rw [z] at h
      intro O' A'' σ' H' _ r
      exact h _ (after _ _ _ _ _ r)
    | brk s' => rw [z] at h; exact h.elim
    | ct s' => rw [z] at h; exact h.elim
    | bad => rw [z] at h; exact h.elim
end

/-! ### calls -/
def mCall (np : Nat) (F : FnM) (fa : M (List D)) : M D := fun s => (fa s).bind fun ds s1 => if ds.length = np then match F (ds.map .dat) with
    | .ok d _ => .ok d s1
    | .err x _ => .err x s1
    | .bad => .bad
  else .bad
def mCallO (np i : Nat) (F : FnM) (fp fq : M (List D)) : M D := fun s => match ownAt s i with
  | none => .bad
  | some _ => (fp s).bind fun ds s1 => (fq s1).bind fun es s2 => match ownAt s2 i with
    | none => .bad
    | some xs => if ds.length + 1 + es.length = np then match F (ds.map .dat ++ .own xs :: es.map .dat) with
        | .ok d ss' => (match ownAt ss' ds.length with
          | some ys => .ok d (s2.set i (.own ys))
          | none => .bad)
        | .err x ss' => (match ownAt ss' ds.length with
          | some ys => .err x (s2.set i (.own ys))
          | none => .bad)
        | .bad => .bad
      else .bad
section
variable {c : Cf} {X : Cx} {W : WX} {a b : Expr} {f : M D} {fs fp fq : M (List D)} {g : G} {pos : Pos}
theorem dat_slot {K : PySem.W.Frag} {O A : List Addr} {H : Hp} {vs : List V} {ds : List D} (q : DpAll K (cut O H) vs ds) (i : Nat) (x : Sl) (h : (ds.map Sl.dat)[i]? = some x) : SlOk K O A H vs[i]? x := by
  rw [List.getElem?_map] at h
  cases z : ds[i]? with
  | none => rw [z] at h; cases h
  | some d =>
    rw [z] at h
    cases h
    obtain ⟨v, e, q'⟩ := dpa_get q z
    exact ⟨v, e, q'⟩
theorem dat_own {ds : List D} {i : Nat} {es : List D} (h : (ds.map Sl.dat)[i]? = some (.own es)) : False := by
  rw [List.getElem?_map] at h
  cases z : ds[i]? with
  | none => rw [z] at h; cases h
  | some d => rw [z] at h; cases h
theorem sem_call {np : Nat} {F : FnM} {ta : TA} (sa : SemA c W ta fs) : SemE c W (tCallS (spF c.K c.T c.ca np F) (WE W) ta) (mCall np F fs) := by
  intro O A σ H s r Q w
  refine sa O A σ H s r _ (Wp.mono (Wp.bind w) ?_)
  intro ds s1 H1 _ f1 r1 w1 vs q
  by_cases hl : ds.length = np
  · rw [if_pos hl] at w1
    refine ⟨O, [], ds.map .dat, ⟨by rw [dpa_len q]; exact hl, by rw [List.length_map]; exact hl, fun a h => by simp at h, r1.alv, dat_slot q, fun i j d1 d2 l h _ _ _ => (dat_own h).elim, r1.tb⟩, ?_⟩
    have gr : ∀ H' ss', AfterC c.K c.T O [] H1 H' vs ss' → Grow c H1 H' := fun H' ss' h => ⟨fun a o e n => h.keep a o e n (by simp), fun _ => h.tb⟩
    cases z : F (ds.map .dat) with
    | ok d ss' =>
      have w1 : Wp c W O A σ H1 (match F (ds.map .dat) with | .ok d _ => .ok d s1 | .err x _ => .err x s1 | .bad => .bad) (PV c O Q) := w1
      rw [z] at w1
      intro v H' h q'
      exact w1 H' ((gr H' ss' h).stp A) (r1.grow (gr H' ss' h)) v q'
    | err x ss' =>
      have w1 : Wp c W O A σ H1 (match F (ds.map .dat) with | .ok d _ => .ok d s1 | .err x _ => .err x s1 | .bad => .bad) (PV c O Q) := w1
      rw [z] at w1
      intro H' h
      exact w1 H' ((gr H' ss' h).stp A) (r1.grow (gr H' ss' h))
    | bad =>
      have w1 : Wp c W O A σ H1 (match F (ds.map .dat) with | .ok d _ => .ok d s1 | .err x _ => .err x s1 | .bad => .bad) (PV c O Q) := w1
      rw [z] at w1
      exact w1.elim
  · rw [if_neg hl] at w1
    exact w1.elim
theorem d_call {k np : Nat} {fa : Addr} {fd : FuncData} {ps : List Str} {F : FnM} {x : Str} {p : Pos} {es : List Expr} (Fk : FnOk X.prog X.w X.K X.mg X.base (L2.CX X.prog X.w) k fa fd ps (spF c.K c.T c.ca np F)) (hr : Room k X.A) (tk : Takes X W) (hm : X.mg x = some (.ref fa)) (hk : PySem.W.keepIn X.K (.ref fa) = true) (hb : Binds X.K fd ps [])
    (ha : DA c X W (a :: es) fs) (hg : Gl X x := by rfl) (hdb : (x == ("__debug__" : Str)) = false := by decide) (he : starEach (a :: es) X.env = (false, eval a X.env) :: starEach es X.env := by rfl) (hpl : (backTo pos (starEach es X.env)).any (·.1) = false := by rfl) :
    DE c X W (.Call (.Name x p) (a :: es) [] pos) (mCall np F fs) := by
  obtain ⟨ta, pa, sa⟩ := ha
  exact ⟨_, pe_callS Fk hr hg hm hk hb (fun σ => passAt tk σ) pa hdb he hpl, sem_call sa⟩
/-- arguments with one owned list among them -/
def SemAo (c : Cf) (W : WX) (ta : TA) (i : Nat) (fp fq : M (List D)) : Prop := ∀ O A σ H s, Rel c O A σ H s → ∀ l, σ[i]? = some (some (.ref l)) → ∀ Q : List V → Hp → Prop,
  Wp c W O A σ H ((fp s).bind fun ds s1 => (fq s1).bind fun es s2 => .ok (ds, es) s2) (fun de _ H' => ∀ vs us, DpAll c.K (cut O H') vs de.1 → DpAll c.K (cut O H') us de.2 → Q (vs ++ .ref l :: us) H') → ta σ H Q
def DAo (c : Cf) (X : Cx) (W : WX) (es : List Expr) (i : Nat) (fp fq : M (List D)) : Prop := ∃ ta, PA X es ta ∧ SemAo c W ta i fp fq
theorem dao_here (i : Nat) {x : Str} {px : Pos} {es : List Expr} (hr : DA c X W es fq) (hN : X.N[i]? = some x := by rfl) (hv : Vis X.env.scope x := by first | exact Or.inl rfl | exact Or.inr (Or.inl rfl) | exact Or.inr (Or.inr rfl)) (hd : (x == ("__debug__" : Str)) = false := by decide)
    (hcd : (x == ("__classdict__" : Str)) = false := by decide) (hs : starEach (.Name x px :: es) X.env = (false, eval (.Name x px) X.env) :: starEach es X.env := by rfl) : DAo c X W (.Name x px :: es) i mNil fq := by
  obtain ⟨ta, pa, sa⟩ := hr
  refine ⟨_, pa_cons (pe_var hN hv hd hcd) pa hs, ?_⟩
  intro O A σ H s r l hl Q w
  refine ⟨.ref l, hl, sa O A σ H s r _ ?_⟩
  have w : Wp c W O A σ H ((fq s).bind fun es s2 => .ok ([], es) s2) (fun de _ H' => ∀ vs us, DpAll c.K (cut O H') vs de.1 → DpAll c.K (cut O H') us de.2 → Q (vs ++ .ref l :: us) H') := w
  refine Wp.mono (Wp.bind w) ?_
  intro es s1 H1 _ f1 r1 w1 us q
  exact w1 H1 (Stp.refl _ _) r1 [] us .nil q
theorem dao_cons {i : Nat} {es : List Expr} (ha : DE c X W a f) (hr : DAo c X W es i fp fq) (hs : starEach (a :: es) X.env = (false, eval a X.env) :: starEach es X.env := by rfl) : DAo c X W (a :: es) i (mCons f fp) fq := by
  obtain ⟨te, pe, se⟩ := ha
  obtain ⟨ta, pa, sa⟩ := hr
  refine ⟨_, pa_cons pe pa hs, ?_⟩
  intro O A σ H s r l hl Q w
  unfold mCons at w
  cases z : f s with
  | err x s1 => rw [z] at w; exact se O A σ H s r _ (by rw [z]; exact w)
  | bad => rw [z] at w; exact w.elim
  | ok d s1 =>
    rw [z] at w
    refine se O A σ H s r _ ?_
    rw [z]
    intro H1 f1 r1 v q
    refine sa O A σ H1 s1 r1 l hl _ ?_
    cases z2 : fp s1 with
    | err x s2 =>
      have w : Wp c W O A σ H (((fp s1).bind fun ds s2 => .ok (d :: ds) s2).bind fun ds s1 => (fq s1).bind fun es s2 => .ok (ds, es) s2) (fun de _ H' => ∀ vs us, DpAll c.K (cut O H') vs de.1 → DpAll c.K (cut O H') us de.2 → Q (vs ++ .ref l :: us) H') := w
      rw [z2] at w
      exact Wp.fwd f1 w
    | bad =>
      have w : Wp c W O A σ H (((fp s1).bind fun ds s2 => .ok (d :: ds) s2).bind fun ds s1 => (fq s1).bind fun es s2 => .ok (ds, es) s2) (fun de _ H' => ∀ vs us, DpAll c.K (cut O H') vs de.1 → DpAll c.K (cut O H') us de.2 → Q (vs ++ .ref l :: us) H') := w
      rw [z2] at w
      exact w.elim
    | ok ds s2 =>
      have w : Wp c W O A σ H (((fp s1).bind fun ds s2 => .ok (d :: ds) s2).bind fun ds s1 => (fq s1).bind fun es s2 => .ok (ds, es) s2) (fun de _ H' => ∀ vs us, DpAll c.K (cut O H') vs de.1 → DpAll c.K (cut O H') us de.2 → Q (vs ++ .ref l :: us) H') := w
      rw [z2] at w
      have w : Wp c W O A σ H ((fq s2).bind fun es s2 => .ok (d :: ds, es) s2) (fun de _ H' => ∀ vs us, DpAll c.K (cut O H') vs de.1 → DpAll c.K (cut O H') us de.2 → Q (vs ++ .ref l :: us) H') := w
      show Wp c W O A σ H1 ((fq s2).bind fun es s2 => .ok (ds, es) s2) _
      cases z3 : fq s2 with
      | err x s3 => rw [z3] at w; exact Wp.fwd f1 w
      | bad => rw [z3] at w; exact w.elim
      | ok es s3 =>
        rw [z3] at w
        intro H2 f2 r2 vs us q1 q2
        exact w H2 (f1.trans f2) r2 (v :: vs) us (.cons (Sub.dp (f2.fwd r.sub) q) q1) q2
theorem sem_callO {np i : Nat} {F : FnM} {ta : TA} (sa : SemAo c W ta i fp fq) : SemE c W (tCallS (spF c.K c.T c.ca np F) (WE W) ta) (mCallO np i F fp fq) := by
  intro O A σ H s r Q w
  unfold mCallO at w
  cases z0 : ownAt s i with
  | none => rw [z0] at w; exact w.elim
  | some xs0 =>
    rw [z0] at w
    obtain ⟨l, us0, hσ, hl, _, _⟩ := rel_own r z0
    refine sa O A σ H s r l hσ _ ?_
    have key : ∀ ds es s2 H1, Rel c O A σ H1 s2 → Stp A H H1 → ∀ vs us, DpAll c.K (cut O H1) vs ds → DpAll c.K (cut O H1) us es →
        Wp c W O A σ H (match ownAt s2 i with
          | none => .bad
          | some xs => if ds.length + 1 + es.length = np then match F (ds.map .dat ++ .own xs :: es.map .dat) with
              | .ok d ss' => (match ownAt ss' ds.length with
                | some ys => .ok d (s2.set i (.own ys))
                | none => .bad)
              | .err x ss' => (match ownAt ss' ds.length with
                | some ys => .err x (s2.set i (.own ys))
                | none => .bad)
              | .bad => .bad
            else .bad) (PV c O Q) → spF c.K c.T c.ca np F (vs ++ .ref l :: us) H1 Q (WE W σ) := by
      intro ds es s2 H1 r2 f1 vs us q1 q2 w
      cases z : ownAt s2 i with
      | none => rw [z] at w; exact w.elim
      | some xs =>
        rw [z] at w
        obtain ⟨l', ws, hσ', _, hw, qw⟩ := rel_own r2 z
        rw [hσ] at hσ'
        cases hσ'
        by_cases hn : ds.length + 1 + es.length = np
        · have w : Wp c W O A σ H (if ds.length + 1 + es.length = np then match F (ds.map .dat ++ .own xs :: es.map .dat) with
              | .ok d ss' => (match ownAt ss' ds.length with
                | some ys => .ok d (s2.set i (.own ys))
                | none => .bad)
              | .err x ss' => (match ownAt ss' ds.length with
                | some ys => .err x (s2.set i (.own ys))
                | none => .bad)
              | .bad => .bad
            else .bad) (PV c O Q) := w
          rw [if_pos hn] at w
          have lv := dpa_len q1
          have lu := dpa_len q2
          -- an argument's place
          have pl : ∀ (j : Nat) (x : Sl), (ds.map Sl.dat ++ .own xs :: es.map Sl.dat)[j]? = some x → SlOk c.K O [l] H1 (vs ++ .ref l :: us)[j]? x := fun j x h => by
            by_cases h1 : j < ds.length
            · rw [List.getElem?_append_left (by rw [List.length_map]; exact h1)] at h
              rw [List.getElem?_append_left (by omega)]
              exact dat_slot q1 j x h
            · rw [List.getElem?_append_right (by rw [List.length_map]; omega), List.length_map] at h
              rw [List.getElem?_append_right (by omega), lv]
              cases hj : j - ds.length with
              | zero =>
                rw [hj] at h
                have h := Option.some.inj h
                subst h
                exact ⟨l, ws, rfl, by simp, hw, qw⟩
              | succ m =>
                rw [hj] at h
                exact dat_slot q2 m x (by exact h)
          have own_at : ∀ (j : Nat) (d1 : List D), (ds.map Sl.dat ++ .own xs :: es.map Sl.dat)[j]? = some (.own d1) → j = ds.length := fun j d1 h => by
            by_cases h1 : j < ds.length
            · rw [List.getElem?_append_left (by rw [List.length_map]; exact h1)] at h
              exact (dat_own h).elim
            · rw [List.getElem?_append_right (by rw [List.length_map]; omega), List.length_map] at h
              cases hj : j - ds.length with
              | zero => omega
              | succ m =>
                rw [hj] at h
                exact (dat_own (ds := es) (i := m) (es := d1) (by exact h)).elim
          refine ⟨O, [l], ds.map .dat ++ .own xs :: es.map .dat, ⟨by simp; omega, by simp; omega, fun a h => ?_, r2.alv, pl, fun j m d1 d2 l' h1 h2 _ _ => (own_at j d1 h1).trans (own_at m d2 h2).symm, r2.tb⟩, ?_⟩
          · have e : a = l := by simpa using h
            rw [e]
            exact r.sub l hl
          have go : ∀ H' ss' ys, AfterC c.K c.T O [l] H1 H' (vs ++ .ref l :: us) ss' → ownAt ss' ds.length = some ys → Stp A H H' ∧ Rel c O A σ H' (s2.set i (.own ys)) := fun H' ss' ys h hy => by
            obtain ⟨l2, ws', e1, _, e3, e4⟩ := h.own _ _ (ownAt_some hy)
            rw [List.getElem?_append_right (by omega), lv, Nat.sub_self] at e1
            have e1 := Option.some.inj e1
            injection e1 with e1
            subst e1
            have ne : ∀ a, a ∉ A → a ∉ [l] := fun a n z => by
              have z : a = l := by simpa using z
              exact n (by rw [z]; exact hl)
            refine ⟨f1.trans fun a o n e nt => h.keep a o e nt (ne a n), ?_⟩
            exact r2.chg (ownAt_some z) hσ hl (fun a o n e nt => h.keep a o e nt (by simpa using n)) e3 e4 h.tb
          cases zf : F (ds.map .dat ++ .own xs :: es.map .dat) with
          | ok d ss' =>
            rw [zf] at w
            intro v H' h q'
            cases hy : ownAt ss' ds.length with
            | none =>
              have w : Wp c W O A σ H (match ownAt ss' ds.length with | some ys => .ok d (s2.set i (.own ys)) | none => .bad) (PV c O Q) := w
              rw [hy] at w; exact w.elim
            | some ys =>
              have w : Wp c W O A σ H (match ownAt ss' ds.length with | some ys => .ok d (s2.set i (.own ys)) | none => .bad) (PV c O Q) := w
              rw [hy] at w
              obtain ⟨g1, g2⟩ := go H' ss' ys h hy
              exact w H' g1 g2 v q'
          | err x ss' =>
            rw [zf] at w
            intro H' h
            cases hy : ownAt ss' ds.length with
            | none =>
              have w : Wp c W O A σ H (match ownAt ss' ds.length with | some ys => .err x (s2.set i (.own ys)) | none => .bad) (PV c O Q) := w
              rw [hy] at w; exact w.elim
            | some ys =>
              have w : Wp c W O A σ H (match ownAt ss' ds.length with | some ys => .err x (s2.set i (.own ys)) | none => .bad) (PV c O Q) := w
              rw [hy] at w
              obtain ⟨g1, g2⟩ := go H' ss' ys h hy
              exact w H' g1 g2
          | bad => rw [zf] at w; exact w.elim
        · have w : Wp c W O A σ H (if ds.length + 1 + es.length = np then match F (ds.map .dat ++ .own xs :: es.map .dat) with
              | .ok d ss' => (match ownAt ss' ds.length with
                | some ys => .ok d (s2.set i (.own ys))
                | none => .bad)
              | .err x ss' => (match ownAt ss' ds.length with
                | some ys => .err x (s2.set i (.own ys))
                | none => .bad)
              | .bad => .bad
            else .bad) (PV c O Q) := w
          rw [if_neg hn] at w
          exact w.elim
    cases zp : fp s with
    | err x s1 =>
      rw [zp] at w
      intro H' f' r'
      exact w H' f' r'
    | bad => rw [zp] at w; exact w.elim
    | ok ds s1 =>
      rw [zp] at w
      simp only [bind_ok] at w
      show Wp c W O A σ H ((fq s1).bind fun es s2 => .ok (ds, es) s2) _
      cases zq : fq s1 with
      | err x s2 =>
        rw [zq] at w
        intro H' f' r'
        exact w H' f' r'
      | bad => rw [zq] at w; exact w.elim
      | ok es s2 =>
        rw [zq] at w
        intro H1 f1 r2 vs us q1 q2
        exact key ds es s2 H1 r2 f1 vs us q1 q2 w
theorem d_callO {k np i : Nat} {fa : Addr} {fd : FuncData} {ps : List Str} {F : FnM} {x : Str} {p : Pos} {es : List Expr} (Fk : FnOk X.prog X.w X.K X.mg X.base (L2.CX X.prog X.w) k fa fd ps (spF c.K c.T c.ca np F)) (hr : Room k X.A) (tk : Takes X W) (hm : X.mg x = some (.ref fa)) (hk : PySem.W.keepIn X.K (.ref fa) = true) (hb : Binds X.K fd ps [])
    (ha : DAo c X W (a :: es) i fp fq) (hg : Gl X x := by rfl) (hdb : (x == ("__debug__" : Str)) = false := by decide) (he : starEach (a :: es) X.env = (false, eval a X.env) :: starEach es X.env := by rfl) (hpl : (backTo pos (starEach es X.env)).any (·.1) = false := by rfl) :
    DE c X W (.Call (.Name x p) (a :: es) [] pos) (mCallO np i F fp fq) := by
  obtain ⟨ta, pa, sa⟩ := ha
  exact ⟨_, pe_callS Fk hr hg hm hk hb (fun σ => passAt tk σ) pa hdb he hpl, sem_callO sa⟩

/-! ### try .. except X: -/
def tuB (c : Cf) (W : WX) (g : G) : TS := fun E σ H => ∃ O A s, Rel c O A σ H s ∧ WpS c W O H (g s) E
theorem ds_best {sts : List Stmt} (h : DSs c X W sts g) : PSs X sts (tuB c W g) := by
  obtain ⟨tu, pu, su⟩ := h
  refine ⟨fun pins s σ H E I hq => ?_⟩
  obtain ⟨O, A, st, r, w⟩ := hq
  exact pu.run pins s σ H E I (su O A σ H st r E w)
def noErr : Out → Out
  | .err _ _ => .bad
  | r => r
def sTry (exm : Str → Option Bool) (gb gs : G) : G := fun s => match gb s with
  | .err y s' => (match exm y with
    | some true => noErr (gs s')
    | some false => .err y s'
    | none => .bad)
  | r => r
theorem s_try {x : Str} {body suite : List Stmt} {b₀ : Stmt} {np pos' : Pos} {gb gs : G} {exm : Str → Option Bool} (hc : Names X x (.ref (c.ca x))) (hx : ∀ y b, exm y = some b → PySem.W.exmOne X.K (.ref (c.ca y)) (.ref (c.ca x)) = some b) (tk : Takes X W)
    (hb : ∀ (W' : WX) (pn : List (Addr × Obj)) (xe : Value → Shared → Prop), Takes (X.tr pn xe) W' → PassesOwn (model X.prog X.w) X.A X.env xe → DSs c (X.tr pn xe) W' body gb)
    (hsu : ∀ (a : Addr) (oe : Obj) (pn : List (Addr × Obj)), DSs c (X.suite a ((a, oe) :: pn)) Wno (b₀ :: suite) gs)
    (hs : X.stack = X.env :: X.outer := by rfl) (hf : X.env.frame = some X.env.locals := by rfl) :
    DS c X W (.Try body [.ExceptHandler (some (.Name x np)) none (b₀ :: suite) pos'] [] [] pos) (sTry exm gb gs) := by
  refine ⟨_, ps_try_only (tb := fun W' => tuB c W' gb) (ts := fun _ _ _ => tuB c Wno gs) hs hf hc tk (fun W' pn xe t p => ds_best (hb W' pn xe t p)) (fun a oe cls d pn _ _ => ds_best (hsu a oe pn)), ?_⟩
  intro O A σ H s r E w
  refine ⟨O, A, s, r, ?_⟩
  unfold sTry at w
  cases z : gb s with
  | nx s' => rw [z] at w; exact w
  | ret d s' => rw [z] at w; exact w
  | brk s' => rw [z] at w; exact w
  | ct s' => rw [z] at w; exact w
  | bad => rw [z] at w; exact w
  | err y s' =>
    rw [z] at w
    intro O' A' σ' H' fw r'
    cases e : exm y with
    | none =>
      have w : WpS c W O H (match exm y with | some true => noErr (gs s') | some false => .err y s' | none => .bad) E := w
      rw [e] at w; exact w.elim
    | some bv =>
      refine ⟨bv, hx y bv e, fun hb2 a ha => ?_, fun hb2 => ?_⟩
      · subst hb2
        have w : WpS c W O H (match exm y with | some true => noErr (gs s') | some false => .err y s' | none => .bad) E := w
        rw [e] at w
        have w : WpS c W O H (noErr (gs s')) E := w
        refine ⟨O', A', s', r', ?_⟩
        cases zg : gs s' with
        | nx s2 => rw [zg] at w; exact WpS.fwd (W := Wno) fw w
        | ret d s2 => rw [zg] at w; exact WpS.fwd (W := Wno) fw w
        | brk s2 => rw [zg] at w; exact WpS.fwd (W := Wno) fw w
        | ct s2 => rw [zg] at w; exact WpS.fwd (W := Wno) fw w
        | err _ _ => rw [zg] at w; exact w.elim
        | bad => rw [zg] at w; exact w.elim
      · subst hb2
        have w : WpS c W O H (match exm y with | some true => noErr (gs s') | some false => .err y s' | none => .bad) E := w
        rw [e] at w
        exact w O' A' σ' H' fw r'
end
end DL

namespace DL
open PySem PySem.Spec L2
/-! ### operations: several rules for one operator -/
theorem OpR.or {X : Cx} {f : Value → Value → Sem Value} {r r' : R2} (h : OpR X f r) (h' : OpR X f r') : OpR X f (fun x y H Q => r x y H Q ∨ r' x y H Q) := by
  intro pins s σ H x y v u Q I rx ry q
  rcases q with q | q
  · exact h pins s σ H x y v u Q I rx ry q
  · exact h' pins s σ H x y v u Q I rx ry q
section
variable {X : Cx} {c : Cf}
/-- lists, frozen ones too -/
def rCatP (K : PySem.W.Frag) : R2 := fun x y H Q => ∃ a b xs ys, x = .ref a ∧ y = .ref b ∧ SqL K H a xs ∧ SqL K H b ys ∧ xs.length + ys.length ≤ sizeLine ∧ ∀ p, H p = none → Q (.ref p) (upd H p (.lst (xs ++ ys)))
theorem op_catP : OpR X (binaryOp .Add) (rCatP X.K) := by
  intro pins s σ H x y v u Q I rx ry h
  obtain ⟨l, b, xs, zs, rfl, rfl, hH, hB, hz, q⟩ := h
  cases rx
  cases ry
  obtain ⟨its, r, pl, h1⟩ := I.list hH
  obtain ⟨its2, r2, pl2, h2⟩ := I.list hB
  obtain ⟨⟨cls, dd, data, sl⟩, n, ho, hc, hdd, hd⟩ := pl
  obtain ⟨⟨cls2, dd2, data2, sl2⟩, n2, ho2, hc2, hdd2, hd2⟩ := pl2
  simp only at hc hdd hd hc2 hdd2 hd2
  subst hc hdd hd hc2 hdd2 hd2
  have e : its.toArray ++ its2.toArray = (its ++ its2).toArray := by simp
  have l1 := r.length
  have l2 := r2.length
  refine concat_meets ⟨_, ho, rfl⟩ ⟨_, ho2, rfl⟩ noFill_list_add seq_list_add PySem.F.slot_list_add PySem.F.entry_list_add (PySem.F.args_list_add_2 _ _) (PyProof.Rows.list_addW l b its.toArray its2.toArray n n2 none none sl sl2 (by rw [List.size_toArray, List.size_toArray]; omega)) ⟨ho, ho2, ?_⟩
  rw [e]
  exact ⟨.ref _, _, I.lnew (t' := s.toks) (r.append r2) (by rw [List.length_append]; omega), rfl, q _ I.fresh⟩
theorem op_str_add : OpR X (binaryOp .Add) (fun x y H Q => ∃ i j, x = .str i ∧ y = .str j ∧ i.length + j.length ≤ sizeLine ∧ Q (.str (i ++ j)) H) := op_add_str
/-- + -/
def addD : D → D → Option D
  | .int i, .int j => some (.int (i + j))
  | .str x, .str y => if x.length + y.length ≤ sizeLine then some (.str (x ++ y)) else none
  | .list xs, .list ys => if xs.length + ys.length ≤ sizeLine then some (.list (xs ++ ys)) else none
  | .tuple xs, .tuple ys => if xs.length + ys.length ≤ sizeLine then some (.tuple (xs ++ ys)) else none
  | _, _ => none
def rAddA (K : PySem.W.Frag) : R2 := fun x y H Q => (rI0 (fun i j => .int (i + j)) x y H Q ∨ (∃ i j, x = .str i ∧ y = .str j ∧ i.length + j.length ≤ sizeLine ∧ Q (.str (i ++ j)) H)) ∨ (rCatP K x y H Q ∨ rCatA K x y H Q)
theorem op_addA : OpR X (binaryOp .Add) (rAddA X.K) := OpR.or (OpR.or op_add op_add_str) (OpR.or op_catP op_catA)
theorem o_add (hK : c.K = X.K) : Oq2 c (rAddA X.K) addD := by
  intro O H x y v w d al e q1 q2 Q k
  cases v with
  | int i =>
    cases w with
    | int j =>
      have e := Option.some.inj (show some (PyData.int (i + j)) = some d from e)
      subst e
      exact .inl (.inl ⟨i, j, dp_int q1, dp_int q2, k _ H (Grow.refl _ _) (.int _)⟩)
    | _ => cases e
  | str i =>
    cases w with
    | str j =>
      have e : (if i.length + j.length ≤ sizeLine then some (PyData.str (i ++ j)) else none) = some d := e
      split at e
      · rename_i hl
        have e := Option.some.inj e
        subst e
        exact .inl (.inr ⟨i, j, dp_str q1, dp_str q2, hl, k _ H (Grow.refl _ _) (.str _)⟩)
      · cases e
    | _ => cases e
  | list ds =>
    cases w with
    | list es =>
      have e : (if ds.length + es.length ≤ sizeLine then some (PyData.list (ds ++ es)) else none) = some d := e
      split at e
      · rename_i hl
        have e := Option.some.inj e
        subst e
        obtain ⟨a, xs, rfl, h1, g1⟩ := q1
        obtain ⟨b, ys, rfl, h2, g2⟩ := q2
        refine .inr (.inl ⟨a, b, xs, ys, rfl, rfl, hK ▸ h1, hK ▸ h2, by rw [dpa_len g1, dpa_len g2]; exact hl, fun p hp => ?_⟩)
        exact k _ _ (Grow.new hp) (dp_newL hp (fresh_of al hp) (dpa_app g1 g2))
      · cases e
    | _ => cases e
  | tuple ds =>
    cases w with
    | tuple es =>
      have e : (if ds.length + es.length ≤ sizeLine then some (PyData.tuple (ds ++ es)) else none) = some d := e
      split at e
      · rename_i hl
        have e := Option.some.inj e
        subst e
        obtain ⟨a, xs, rfl, h1, g1⟩ := dp_tup q1
        obtain ⟨b, ys, rfl, h2, g2⟩ := dp_tup q2
        have l1 := dpa_len g1
        have l2 := dpa_len g2
        refine .inr (.inr ⟨a, b, xs, ys, rfl, rfl, hK ▸ (Sub.cut O H).sqt h1, hK ▸ (Sub.cut O H).sqt h2, by omega, fun e1 => ?_, fun _ e2 => ?_, fun _ _ p hp => ?_⟩)
        · subst e1
          have : ds = [] := List.eq_nil_of_length_eq_zero l1.symm
          subst this
          exact k _ H (Grow.refl _ _) (.tup h2 g2)
        · subst e2
          have : es = [] := List.eq_nil_of_length_eq_zero l2.symm
          subst this
          rw [List.append_nil] at k
          exact k _ H (Grow.refl _ _) (.tup h1 g1)
        · exact k _ _ (Grow.new hp) (dp_newT hp (fresh_of al hp) (dpa_app g1 g2))
      · cases e
    | _ => cases e
  | none => cases e
  | bool _ => cases e
  | dict _ => cases e
/-- ints -/
def subD : D → D → Option D
  | .int i, .int j => some (.int (i - j))
  | _, _ => none
theorem intop {r : R2} {op : D → D → Option D} (h : ∀ i j d, op (.int i) (.int j) = some d → ∀ H Q, (∀ z, (∀ G, Dp c.K G z d) → Q z H) → r (.int i) (.int j) H Q) (h' : ∀ v w d, op v w = some d → ∃ i j, v = .int i ∧ w = .int j) : Oq2 c r op := by
  intro O H x y v w d al e q1 q2 Q k
  obtain ⟨i, j, rfl, rfl⟩ := h' v w d e
  have e1 := dp_int q1
  have e2 := dp_int q2
  subst e1
  subst e2
  exact h i j d e H Q fun z hz => k z H (Grow.refl _ _) (hz _)
theorem o_sub : Oq2 c (rI0 fun i j => .int (i - j)) subD := intop (fun i j d e H Q k => ⟨i, j, rfl, rfl, k _ fun G => by
    have e := Option.some.inj (show some (PyData.int (i - j)) = some d from e)
    subst e
    exact .int _⟩) (fun v w d e => by cases v <;> cases w <;> first | exact ⟨_, _, rfl, rfl⟩ | cases e)
/-- //, % by a positive divisor -/
def fdivD : D → D → Option D
  | .int i, .int j => if btw 0 1073741824 j = true then some (.int (i / j)) else none
  | _, _ => none
def modD : D → D → Option D
  | .int i, .int j => if 0 < j then some (.int (i % j)) else none
  | _, _ => none
theorem o_fdiv : Oq2 c (rI CDiv fun i j => .int (i / j)) fdivD := intop (fun i j d e H Q k => by
    have e : (if btw 0 1073741824 j = true then some (PyData.int (i / j)) else none) = some d := e
    split at e
    · rename_i hj
      have e := Option.some.inj e
      subst e
      exact ⟨i, j, rfl, rfl, btw_iff.mp hj, k _ fun G => .int _⟩
    · cases e) (fun v w d e => by cases v <;> cases w <;> first | exact ⟨_, _, rfl, rfl⟩ | cases e)
theorem o_mod : Oq2 c (rI (fun _ j => 0 < j) fun i j => .int (i % j)) modD := intop (fun i j d e H Q k => by
    have e : (if 0 < j then some (PyData.int (i % j)) else none) = some d := e
    split at e
    · rename_i hj
      have e := Option.some.inj e
      subst e
      exact ⟨i, j, rfl, rfl, hj, k _ fun G => .int _⟩
    · cases e) (fun v w d e => by cases v <;> cases w <;> first | exact ⟨_, _, rfl, rfl⟩ | cases e)
def powD : D → D → Option D
  | .int i, .int j => if 0 ≤ j ∧ j ≤ 1000000 ∧ i.natAbs < 2 ^ 64 then some (.int (i ^ j.toNat)) else none
  | _, _ => none
theorem o_pow : Oq2 c (rI CPow fun i j => .int (i ^ j.toNat)) powD := intop (fun i j d e H Q k => by
    have e : (if 0 ≤ j ∧ j ≤ 1000000 ∧ i.natAbs < 2 ^ 64 then some (PyData.int (i ^ j.toNat)) else none) = some d := e
    split at e
    · rename_i hj
      have e := Option.some.inj e
      subst e
      exact ⟨i, j, rfl, rfl, hj, k _ fun G => .int _⟩
    · cases e) (fun v w d e => by cases v <;> cases w <;> first | exact ⟨_, _, rfl, rfl⟩ | cases e)
theorem rep_size (a : Array Nat) : ∀ (k : Nat) (acc : Array Nat), ((List.replicate k a).foldl (· ++ ·) acc).size = acc.size + k * a.size
  | 0, acc => by simp
  | k + 1, acc => by
    rw [List.replicate_succ, List.foldl_cons, rep_size a k, Array.size_append, Nat.succ_mul]
    omega
/-- times: ints, a text or a tuple times a number -/
theorem op_str_mul : OpR X (binaryOp .Mult) (fun x y H Q => ∃ z k, x = .str z ∧ y = .int k ∧ 2 ≤ k ∧ k ≤ 1000 ∧ 0 < z.length ∧ z.length ≤ 1000 ∧ Q (.str ⟨(List.replicate k.toNat z.cps).foldl (· ++ ·) #[]⟩) H) := by
  intro pins s σ H x y v u Q I rx ry h
  obtain ⟨z, k, rfl, rfl, h1, h2, h3, h4, q⟩ := h
  obtain ⟨t, rfl⟩ := rx
  obtain ⟨t', rfl⟩ := ry
  have hk : (k == 1 || z.length == 0) = false := by
    rw [Bool.or_eq_false_iff]
    exact ⟨beq_eq_false_iff_ne.mpr (by omega), beq_eq_false_iff_ne.mpr (by omega)⟩
  have hm : z.length * k.toNat ≤ 1000000 := by
    have : z.length * k.toNat ≤ 1000 * 1000 := Nat.mul_le_mul h4 (by omega)
    omega
  have hz : z.length * k.toNat ≤ sizeLine := by rw [sizeLine_eq]; omega
  refine PySem.P.mul_str ?_ (fun _ _ => ?_) (fun _ _ => ?_) ?_
  · rw [decide_eq_false (by omega), decide_eq_false (by omega)] <;> rfl
  · have e : ((2 : Int) ^ 63 - 1) / k ≥ 9223372036854775 := by
      have h5 : (9223372036854775 : Int) ≤ (9223372036854775807 : Int) / k := (Int.le_ediv_iff_mul_le (by omega)).mpr (by omega)
      exact h5
    have h6 : ((z.length : Nat) : Int) ≤ 1000 := by omega
    omega
  · first
      | exact decide_eq_false (by omega)
      | (unfold tooLong; exact decide_eq_false (by rw [sizeLine_eq] at *; omega))
      | (unfold tooLong; simp; omega)
  · rw [if_neg (by omega), if_neg (by rw [hk]; exact Bool.false_ne_true)]
    refine ⟨?_, .str _, H, I.tok _, ⟨_, rfl⟩, q⟩
    show ((List.replicate k.toNat z.cps).foldl (· ++ ·) #[]).size ≤ sizeLine
    rw [rep_size]
    have e : z.cps.size = z.length := rfl
    rw [e]
    simp only [Array.size_empty, Nat.zero_add]
    rw [Nat.mul_comm]
    exact hz
theorem tuple_mulS (l : Addr) (items : Array Value) (n : Nat) (dd : Option Addr) (sl : Array (Option Value)) (x : Int) (u : Tok) (c0 : (decide (x < -(2 ^ 63)) || decide (x ≥ 2 ^ 63)) = false) (c1 : (items.isEmpty || x == 1) = true) :
    Meets (Builtin.«tuple.__mul__» ⟨[.ref l, .int x u], []⟩) (fun _ R s => s.heap.get? l = some { cls := .type "tuple", dict := dd, data := .seq items n, slots := sl } ∧ R (.ok (.ret (Value.ref l))) s) :=
  .of_wp fun prog w A R s h => by
    obtain ⟨hp, g, d, tk, os⟩ := s
    obtain ⟨hl, h⟩ := h
    have f1 := AutoSeq1.idx_int
    wp_walk using PySem.AutoSeq1.wpAny_loadPart' hl
    repeat (first
      | (refine wpAny_ite_false (decide_eq_false (by rw [c0]; exact Bool.false_ne_true)) ?_; wp_walk using PySem.AutoSeq1.wpAny_loadPart' hl)
      | (refine wpAny_ite_true (decide_eq_true c1) ?_; wp_walk using PySem.AutoSeq1.wpAny_loadPart' hl))
    exact ⟨_, rfl, h⟩
/-- t * 1, () * k: the same tuple -/
def rRepS (K : PySem.W.Frag) : R2 := fun x y H Q => ∃ l k xs, x = .ref l ∧ y = .int k ∧ SqT K H l xs ∧ (xs = [] ∨ k = 1) ∧ 0 ≤ k ∧ k ≤ 1000 ∧ Q (.ref l) H
theorem op_repS : OpR X (binaryOp .Mult) (rRepS X.K) := by
  intro pins s σ H x y v u Q I rx ry h
  obtain ⟨l, k, xs, rfl, rfl, hT, hne, h1, h2, q⟩ := h
  cases rx
  obtain ⟨t, rfl⟩ := ry
  obtain ⟨its, r, ⟨⟨cls, dd, data, sl⟩, ho, hc, n, hd⟩, hs⟩ := I.tuple hT
  simp only at hc hd
  subst hc hd
  have hle : its.length = xs.length := r.length.symm
  have c1 : (its.toArray.isEmpty || k == 1) = true := by
    rcases hne with e | e
    · rw [e] at hle
      have : its = [] := List.eq_nil_of_length_eq_zero hle
      subst this
      rfl
    · subst e
      simp
  have c0 : (decide (k < -(2 ^ 63)) || decide (k ≥ 2 ^ 63)) = false := by
    rw [decide_eq_false (by omega), decide_eq_false (by omega)] <;> rfl
  refine wpAny_binaryOp_repeat_ref (T := "tuple") (U := "int") (by decide) ⟨_, ho, rfl⟩ (fun s' => typeIs_int s' k t) noFill_tuple_mul PySem.F.fills_int_mul PySem.F.slot_int_rmul repeat_tuple PySem.F.slot_int_index.lookup
    (call_meets PySem.F.slot_int_rmul (typeIs_int s k t) PySem.F.entry_int_rmul (PySem.F.args_int_rmul_2 _ _) (int_rmul_tuple k t l its.toArray n dd sl)
      ⟨ho, rfl, ⟨_, ho, rfl⟩, call_meets PySem.F.slot_tuple_mul ⟨_, ho, rfl⟩ PySem.F.entry_tuple_mul (PySem.F.args_tuple_mul_2 _ _) (tuple_mulS l its.toArray n dd sl k t c0 c1) ⟨ho, ?_⟩⟩)
  exact ⟨.ref l, H, I, rfl, q⟩
def repS (k : Nat) (z : Str) : Str := ⟨(List.replicate k z.cps).foldl (· ++ ·) #[]⟩
def mulD : D → D → Option D
  | .int i, .int j => if (btw (-(2 ^ 64)) (2 ^ 64) i || btw (-(2 ^ 64)) (2 ^ 64) j) = true then some (.int (i * j)) else none
  | .str z, .int k => if 2 ≤ k ∧ k ≤ 1000 ∧ 0 < z.length ∧ z.length ≤ 1000 then some (.str (repS k.toNat z)) else none
  | .tuple ds, .int k => if 0 ≤ k ∧ k ≤ 1000 ∧ ds.length ≤ 1000 then (if ds.isEmpty = true ∨ k ≠ 0 then some (.tuple (List.replicate k.toNat ds).flatten) else none) else none
  | _, _ => none
end
end DL

namespace DL
open PySem PySem.Spec L2
section
variable {X : Cx} {c : Cf}
def rMulA (K : PySem.W.Frag) : R2 := fun x y H Q => (rI CMul (fun i j => .int (i * j)) x y H Q ∨ (∃ z k, x = .str z ∧ y = .int k ∧ 2 ≤ k ∧ k ≤ 1000 ∧ 0 < z.length ∧ z.length ≤ 1000 ∧ Q (.str ⟨(List.replicate k.toNat z.cps).foldl (· ++ ·) #[]⟩) H)) ∨ (rRepS K x y H Q ∨ rRepT K x y H Q)
theorem op_mulA : OpR X (binaryOp .Mult) (rMulA X.K) := OpR.or (OpR.or op_mul op_str_mul) (OpR.or op_repS op_repT)
theorem o_mul (hK : c.K = X.K) : Oq2 c (rMulA X.K) mulD := by
  intro O H x y v w d al e q1 q2 Q k
  cases v with
  | int i =>
    cases w with
    | int j =>
      have e : (if (btw (-(2 ^ 64)) (2 ^ 64) i || btw (-(2 ^ 64)) (2 ^ 64) j) = true then some (PyData.int (i * j)) else none) = some d := e
      split at e
      · rename_i hj
        have e := Option.some.inj e
        subst e
        exact .inl (.inl ⟨i, j, dp_int q1, dp_int q2, (Bool.or_eq_true_iff.mp hj).imp btw_iff.mp btw_iff.mp, k _ H (Grow.refl _ _) (.int _)⟩)
      · cases e
    | _ => cases e
  | str z =>
    cases w with
    | int j =>
      have e : (if 2 ≤ j ∧ j ≤ 1000 ∧ 0 < z.length ∧ z.length ≤ 1000 then some (PyData.str (repS j.toNat z)) else none) = some d := e
      split at e
      · rename_i hj
        have e := Option.some.inj e
        subst e
        exact .inl (.inr ⟨z, j, dp_str q1, dp_int q2, hj.1, hj.2.1, hj.2.2.1, hj.2.2.2, k _ H (Grow.refl _ _) (.str _)⟩)
      · cases e
    | _ => cases e
  | tuple ds =>
    cases w with
    | int j =>
      have e : (if 0 ≤ j ∧ j ≤ 1000 ∧ ds.length ≤ 1000 then (if ds.isEmpty = true ∨ j ≠ 0 then some (PyData.tuple (List.replicate j.toNat ds).flatten) else none) else none) = some d := e
      split at e
      · rename_i hj
        split at e
        · rename_i hj2
          have e := Option.some.inj e
          subst e
          obtain ⟨a, xs, rfl, h1, g1⟩ := dp_tup q1
          have e2 := dp_int q2
          subst e2
          have l1 := dpa_len g1
          by_cases hx : xs = [] ∨ j = 1
          · refine .inr (.inl ⟨a, j, xs, rfl, rfl, hK ▸ (Sub.cut O H).sqt h1, hx, hj.1, hj.2.1, k _ H (Grow.refl _ _) ?_⟩)
            rcases hx with hx | hx
            · subst hx
              have e3 : ds = [] := List.eq_nil_of_length_eq_zero l1.symm
              subst e3
              have e4 : (List.replicate j.toNat ([] : List PyData)).flatten = [] := by simp
              rw [e4]
              exact .tup h1 .nil
            · subst hx
              have e4 : (List.replicate (1 : Int).toNat ds).flatten = ds := by simp
              rw [e4]
              exact .tup h1 g1
          · rw [not_or] at hx
            have hd : ds.isEmpty = false := by
              cases ds with
              | nil => exact absurd (List.eq_nil_of_length_eq_zero l1) hx.1
              | cons _ _ => rfl
            have h0 : j ≠ 0 := by
              rcases hj2 with z | z
              · rw [hd] at z; cases z
              · exact z
            refine .inr (.inr ⟨a, j, xs, rfl, rfl, hK ▸ (Sub.cut O H).sqt h1, hx.1, by omega, hj.2.1, by omega, fun p hp => ?_⟩)
            exact k _ _ (Grow.new hp) (dp_newT hp (fresh_of al hp) (dpa_rep g1 _))
        · cases e
      · cases e
    | _ => cases e
  | none => cases e
  | bool _ => cases e
  | list _ => cases e
  | dict _ => cases e

/-! ### equality -/
/-- two plain values that the quick rule serves -/
def scalD : D → D → Bool
  | .none, .none => true | .none, .int _ => true | .int _, .none => true | .none, .bool _ => true | .bool _, .none => true | .none, .str _ => true | .str _, .none => true
  | .int _, .int _ => true | .bool _, .bool _ => true | .str _, .str _ => true
  | .int _, .str _ => true | .str _, .int _ => true | .bool _, .str _ => true | .str _, .bool _ => true
  | _, _ => false
def eqD (d e : D) : Option D := if scalD d e = true ∨ (SeqAt.shaped d = true ∧ SeqAt.shaped e = true) then some (.bool (PyData.eqv d e)) else none
def neD (d e : D) : Option D := if scalD d e = true ∨ (SeqAt.shaped d = true ∧ SeqAt.shaped e = true) then some (.bool (!PyData.eqv d e)) else none
def rEqA (K : PySem.W.Frag) : R2 := fun x y H Q => rEq x y H Q ∨ rEqD K x y H Q
def rNeA (K : PySem.W.Frag) : R2 := fun x y H Q => rNe x y H Q ∨ rNeD K x y H Q
theorem op_eqA {k : Nat} (hr : Room k X.A) : OpR X (compareOp .Eq) (rEqA X.K) := OpR.or op_eq (op_eqD hr.units)
theorem op_neA {k : Nat} (hr : Room k X.A) : OpR X (compareOp .NotEq) (rNeA X.K) := OpR.or op_ne (op_neD hr.units)
theorem scal_of {K : PySem.W.Frag} {G : Hp} {x y : V} {d e : D} (h : scalD d e = true) (q1 : Dp K G x d) (q2 : Dp K G y e) : scal x y = true ∧ decide (x = y) = PyData.eqv d e := by
  cases d <;> cases e <;> first
    | (exact Bool.noConfusion (show false = true from h))
    | (cases q1; cases q2; refine ⟨rfl, ?_⟩; first | rfl | (simp [PyData.eqv]; done) | (simp only [PyData.eqv, V.bl.injEq, V.int.injEq, V.str.injEq]; exact (Bool.beq_eq_decide_eq _ _).symm))
theorem dq_dp {K : PySem.W.Frag} {O : List Addr} {H : Hp} {v : V} {d : D} (h : Dq K O H v d) : Dp K H v d := by
  cases d with
  | list ds =>
    obtain ⟨a, xs, rfl, h1, h2⟩ := h
    exact .lst h1 (Sub.dpa (Sub.cut O H) h2)
  | none => exact (Sub.cut O H).dp h
  | bool _ => exact (Sub.cut O H).dp h
  | int _ => exact (Sub.cut O H).dp h
  | str _ => exact (Sub.cut O H).dp h
  | tuple _ => exact (Sub.cut O H).dp h
  | dict _ => exact (Sub.cut O H).dp h
theorem o_eq (hK : c.K = X.K) : Oq2 c (rEqA X.K) eqD := by
  intro O H x y v w d al e q1 q2 Q k
  have q1 := dq_dp q1
  have q2 := dq_dp q2
  unfold eqD at e
  split at e
  · rename_i h
    have e := Option.some.inj e
    subst e
    rcases h with h | ⟨h1, h2⟩
    · obtain ⟨z1, z2⟩ := scal_of h q1 q2
      exact .inl ⟨z1, by rw [z2]; exact k _ H (Grow.refl _ _) (.bl _)⟩
    · exact .inr ⟨v, w, hK ▸ q1, hK ▸ q2, h1, h2, k _ H (Grow.refl _ _) (.bl _)⟩
  · cases e
theorem o_ne (hK : c.K = X.K) : Oq2 c (rNeA X.K) neD := by
  intro O H x y v w d al e q1 q2 Q k
  have q1 := dq_dp q1
  have q2 := dq_dp q2
  unfold neD at e
  split at e
  · rename_i h
    have e := Option.some.inj e
    subst e
    rcases h with h | ⟨h1, h2⟩
    · obtain ⟨z1, z2⟩ := scal_of h q1 q2
      exact .inl ⟨z1, by rw [z2]; exact k _ H (Grow.refl _ _) (.bl _)⟩
    · exact .inr ⟨v, w, hK ▸ q1, hK ▸ q2, h1, h2, k _ H (Grow.refl _ _) (.bl _)⟩
  · cases e
/-! ### order of numbers and texts -/
def ltS (x y : Str) : Bool := decide (x.cps.toList < y.cps.toList)
def ltD : D → D → Option D
  | .int i, .int j => some (.bool (ltI i j))
  | .str x, .str y => some (.bool (ltS x y))
  | _, _ => none
def leD : D → D → Option D
  | .int i, .int j => some (.bool (!ltI j i))
  | .str x, .str y => some (.bool (!ltS y x))
  | _, _ => none
def gtD : D → D → Option D
  | .int i, .int j => some (.bool (ltI j i))
  | .str x, .str y => some (.bool (ltS y x))
  | _, _ => none
def geD : D → D → Option D
  | .int i, .int j => some (.bool (!ltI i j))
  | .str x, .str y => some (.bool (!ltS x y))
  | _, _ => none
def rOrd (p : Int → Int → Bool) (g : Str → Str → Bool) : R2 := fun x y H Q => rI0 (fun i j => .bl (p i j)) x y H Q ∨ ∃ i j, x = .str i ∧ y = .str j ∧ Q (.bl (g i j)) H
theorem o_ord {p : Int → Int → Bool} {g : Str → Str → Bool} {op : D → D → Option D} (h1 : ∀ i j, op (.int i) (.int j) = some (.bool (p i j))) (h2 : ∀ i j, op (.str i) (.str j) = some (.bool (g i j)))
    (h3 : ∀ v w d, op v w = some d → (∃ i j, v = .int i ∧ w = .int j) ∨ ∃ i j, v = .str i ∧ w = .str j) : Oq2 c (rOrd p g) op := by
  intro O H x y v w d al e q1 q2 Q k
  rcases h3 v w d e with ⟨i, j, rfl, rfl⟩ | ⟨i, j, rfl, rfl⟩
  · rw [h1] at e
    have e := Option.some.inj e
    subst e
    exact .inl ⟨i, j, dp_int q1, dp_int q2, k _ H (Grow.refl _ _) (.bl _)⟩
  · rw [h2] at e
    have e := Option.some.inj e
    subst e
    exact .inr ⟨i, j, dp_str q1, dp_str q2, k _ H (Grow.refl _ _) (.bl _)⟩
theorem op_ltA : OpR X (compareOp .Lt) (rOrd (fun i j => decide (i < j)) ltS) := OpR.or op_lt op_lt_str
theorem op_leA : OpR X (compareOp .LtE) (rOrd (fun i j => decide (i ≤ j)) fun x y => !ltS y x) := OpR.or op_le op_le_str
theorem op_gtA : OpR X (compareOp .Gt) (rOrd (fun i j => decide (j < i)) fun x y => ltS y x) := OpR.or op_gt op_gt_str
theorem op_geA : OpR X (compareOp .GtE) (rOrd (fun i j => decide (j ≤ i)) fun x y => !ltS x y) := OpR.or op_ge op_ge_str
theorem o_lt : Oq2 c (rOrd (fun i j => decide (i < j)) ltS) ltD := o_ord (fun i j => by show some (PyData.bool (ltI i j)) = _; rw [ltI_eq]) (fun _ _ => rfl) fun v w d e => by cases v <;> cases w <;> first | exact .inl ⟨_, _, rfl, rfl⟩ | exact .inr ⟨_, _, rfl, rfl⟩ | cases e
theorem o_le : Oq2 c (rOrd (fun i j => decide (i ≤ j)) fun x y => !ltS y x) leD := o_ord (fun i j => by show some (PyData.bool (!ltI j i)) = _; rw [leI_eq]) (fun _ _ => rfl) fun v w d e => by cases v <;> cases w <;> first | exact .inl ⟨_, _, rfl, rfl⟩ | exact .inr ⟨_, _, rfl, rfl⟩ | cases e
theorem o_gt : Oq2 c (rOrd (fun i j => decide (j < i)) fun x y => ltS y x) gtD := o_ord (fun i j => by show some (PyData.bool (ltI j i)) = _; rw [ltI_eq]) (fun _ _ => rfl) fun v w d e => by cases v <;> cases w <;> first | exact .inl ⟨_, _, rfl, rfl⟩ | exact .inr ⟨_, _, rfl, rfl⟩ | cases e
theorem o_ge : Oq2 c (rOrd (fun i j => decide (j ≤ i)) fun x y => !ltS x y) geD := o_ord (fun i j => by show some (PyData.bool (!ltI i j)) = _; rw [leI_eq]) (fun _ _ => rfl) fun v w d e => by cases v <;> cases w <;> first | exact .inl ⟨_, _, rfl, rfl⟩ | exact .inr ⟨_, _, rfl, rfl⟩ | cases e
/-! ### is None -/
def isNon : D → Bool
  | .none => true
  | _ => false
def isNone : D → D → Option D
  | d, .none => some (.bool (isNon d))
  | _, _ => none
def notNone : D → D → Option D
  | d, .none => some (.bool (!isNon d))
  | _, _ => none
theorem non_dec {K : PySem.W.Frag} {G : Hp} {x : V} {d : D} (q : Dp K G x d) : decide (x = .non) = isNon d := by
  cases q <;> rfl
theorem o_isN : Op2 c (fun x y H Q => y = .non ∧ Q (.bl (decide (x = .non))) H) isNone := by
  intro O H x y v w d al e q1 q2 Q k
  cases w with
  | none =>
    refine ⟨dp_non q2, ?_⟩
    rw [non_dec q1]
    have e := Option.some.inj (show some (PyData.bool (isNon v)) = some d from e)
    subst e
    exact k _ H (Grow.refl _ _) (.bl _)
  | _ => cases v <;> cases e
theorem o_notN : Op2 c (fun x y H Q => y = .non ∧ Q (.bl (!decide (x = .non))) H) notNone := by
  intro O H x y v w d al e q1 q2 Q k
  cases w with
  | none =>
    refine ⟨dp_non q2, ?_⟩
    rw [non_dec q1]
    have e := Option.some.inj (show some (PyData.bool (!isNon v)) = some d from e)
    subst e
    exact k _ H (Grow.refl _ _) (.bl _)
  | _ => cases v <;> cases e
/-! ### in, not in: flat items -/
def flatD : D → Bool
  | .none => true
  | .bool _ => true
  | .int _ => true
  | .str _ => true
  | _ => false
def inD (d e : D) : Option D := match items e with
  | some ds => if flatD d = true ∧ ds.all flatD = true then some (.bool (ds.any fun z => PyData.eqv z d)) else none
  | none => none
def notInD (d e : D) : Option D := match items e with
  | some ds => if flatD d = true ∧ ds.all flatD = true then some (.bool (!ds.any fun z => PyData.eqv z d)) else none
  | none => none
theorem flat_of {K : PySem.W.Frag} {G : Hp} {x : V} {d : D} (q : Dp K G x d) (h : flatD d = true) : flatV x = true := by
  cases q <;> first | rfl | cases h
theorem flats_of {K : PySem.W.Frag} {G : Hp} : ∀ {ds : List D} {xs : List V}, DpAll K G xs ds → ds.all flatD = true → xs.all flatV = true
  | _, _, .nil, _ => rfl
  | _, _, .cons q r, h => by
    rw [List.all_cons, Bool.and_eq_true] at h ⊢
    exact ⟨flat_of q h.1, flats_of r h.2⟩
theorem eqV_of {K : PySem.W.Frag} {G : Hp} {x y : V} {d e : D} (q1 : Dp K G x d) (q2 : Dp K G y e) (h1 : flatD d = true) (h2 : flatD e = true) : eqV x y = PyData.eqv d e := by
  cases d <;> first
    | (exact Bool.noConfusion (show false = true from h1))
    | (cases e <;> first
        | (exact Bool.noConfusion (show false = true from h2))
        | (cases q1; cases q2; simp [eqV, PyData.eqv]))
theorem inV_of {K : PySem.W.Frag} {G : Hp} {x : V} {d : D} (q : Dp K G x d) (h : flatD d = true) : ∀ {ds : List D} {xs : List V}, DpAll K G xs ds → ds.all flatD = true → inV x xs = ds.any fun z => PyData.eqv z d
  | _, _, .nil, _ => rfl
  | _, _, .cons q1 r, h1 => by
    rw [List.all_cons, Bool.and_eq_true] at h1
    unfold inV
    rw [List.any_cons, List.any_cons, eqV_of q1 q h1.1 h]
    congr 1
    exact inV_of q h r h1.2
theorem dq_items {K : PySem.W.Frag} {O : List Addr} {H : Hp} {y : V} {e : D} {ds : List D} (q : Dq K O H y e) (h : items e = some ds) : ∃ p xs, y = .ref p ∧ (SqL K H p xs ∨ SqT K H p xs) ∧ DpAll K (cut O H) xs ds := by
  cases e with
  | list es =>
    have h := Option.some.inj (show some es = some ds from h)
    subst h
    obtain ⟨a, xs, rfl, h1, h2⟩ := q
    exact ⟨a, xs, rfl, .inl h1, h2⟩
  | tuple es =>
    have h := Option.some.inj (show some es = some ds from h)
    subst h
    obtain ⟨a, xs, rfl, h1, h2⟩ := dp_tup q
    exact ⟨a, xs, rfl, .inr ((Sub.cut O H).sqt h1), h2⟩
  | none => cases h
  | bool _ => cases h
  | int _ => cases h
  | str _ => cases h
  | dict _ => cases h
theorem dq_flat {K : PySem.W.Frag} {O : List Addr} {H : Hp} {v : V} {d : D} (h : Dq K O H v d) (f : flatD d = true) : Dp K (cut O H) v d := by
  cases d <;> first | exact h | cases f
theorem o_in (hK : c.K = X.K) : Oq2 c (rIn X.K false) inD := by
  intro O H x y v w d al e q1 q2 Q k
  unfold inD at e
  cases z : items w with
  | none => rw [z] at e; cases e
  | some ds =>
    rw [z] at e
    have e : (if flatD v = true ∧ ds.all flatD = true then some (PyData.bool (ds.any fun z => PyData.eqv z v)) else none) = some d := e
    split at e
    · rename_i h
      have e := Option.some.inj e
      subst e
      obtain ⟨p, xs, rfl, h1, h2⟩ := dq_items q2 z
      have q1 := dq_flat q1 h.1
      refine ⟨p, xs, rfl, hK ▸ h1, flat_of q1 h.1, flats_of h2 h.2, ?_⟩
      rw [if_neg Bool.false_ne_true, inV_of q1 h.1 h2 h.2]
      exact k _ H (Grow.refl _ _) (.bl _)
    · cases e
theorem o_notIn (hK : c.K = X.K) : Oq2 c (rIn X.K true) notInD := by
  intro O H x y v w d al e q1 q2 Q k
  unfold notInD at e
  cases z : items w with
  | none => rw [z] at e; cases e
  | some ds =>
    rw [z] at e
    have e : (if flatD v = true ∧ ds.all flatD = true then some (PyData.bool (!ds.any fun z => PyData.eqv z v)) else none) = some d := e
    split at e
    · rename_i h
      have e := Option.some.inj e
      subst e
      obtain ⟨p, xs, rfl, h1, h2⟩ := dq_items q2 z
      have q1 := dq_flat q1 h.1
      refine ⟨p, xs, rfl, hK ▸ h1, flat_of q1 h.1, flats_of h2 h.2, ?_⟩
      rw [if_pos rfl, inV_of q1 h.1 h2 h.2]
      exact k _ H (Grow.refl _ _) (.bl _)
    · cases e
/-! ### len, abs, int, tuple, list -/
def lenD : List D → Option D
  | [.str x] => if x.length ≤ sizeLine then some (.int x.length) else none
  | [.list xs] => some (.int xs.length)
  | [.tuple xs] => some (.int xs.length)
  | _ => none
def rLen (K : PySem.W.Frag) : List V → Hp → VK → Prop := fun xs H Q => ∃ x n, xs = [x] ∧ LenV K x H n ∧ Q (.int n) H
theorem o_len (hK : c.K = X.K) : OqN c (rLen X.K) lenD := by
  intro O H x v d al e q Q k
  cases v with
  | str z =>
    have e : (if z.length ≤ sizeLine then some (PyData.int z.length) else none) = some d := e
    split at e
    · rename_i h
      have e := Option.some.inj e
      subst e
      have e2 := dp_str q
      subst e2
      exact ⟨_, z.length, rfl, ⟨h, rfl⟩, k _ H (Grow.refl _ _) (.int _)⟩
    · cases e
  | list ds =>
    have e := Option.some.inj (show some (PyData.int ds.length) = some d from e)
    subst e
    obtain ⟨a, xs, rfl, h1, h2⟩ := q
    exact ⟨_, xs.length, rfl, .inl ⟨xs, hK ▸ h1, rfl⟩, by rw [dpa_len h2]; exact k _ H (Grow.refl _ _) (.int _)⟩
  | tuple ds =>
    have e := Option.some.inj (show some (PyData.int ds.length) = some d from e)
    subst e
    obtain ⟨a, xs, rfl, h1, h2⟩ := dp_tup q
    exact ⟨_, xs.length, rfl, .inr ⟨xs, hK ▸ (Sub.cut O H).sqt h1, rfl⟩, by rw [dpa_len h2]; exact k _ H (Grow.refl _ _) (.int _)⟩
  | none => cases e
  | bool _ => cases e
  | int _ => cases e
  | dict _ => cases e
theorem OqN.op {r : List V → Hp → VK → Prop} {op : List D → Option D} (h : OqN c r op) (h1 : ∀ vs d, op vs = some d → ∃ v, vs = [v]) : OpN c r op := by
  intro O H xs vs d al e q Q k
  obtain ⟨v, rfl⟩ := h1 vs d e
  obtain ⟨x, rfl, q1⟩ := dpa_one q
  exact h O H x v d al e (.of q1) Q k
theorem one_len {vs : List D} {d : D} (e : lenD vs = some d) : ∃ v, vs = [v] := by
  unfold lenD at e
  split at e <;> first | exact ⟨_, rfl⟩ | cases e
def absD : List D → Option D
  | [.int i] => some (.int (if i < 0 then -i else i))
  | _ => none
theorem o_abs : OpN c (fun xs H Q => ∃ i, xs = [.int i] ∧ Q (.int (if i < 0 then -i else i)) H) absD := by
  intro O H xs vs d al e q Q k
  unfold absD at e
  split at e
  · rename_i i
    have e := Option.some.inj e
    subst e
    obtain ⟨x, rfl, q1⟩ := dpa_one q
    have e2 := dp_int q1
    subst e2
    exact ⟨i, rfl, k _ H (Grow.refl _ _) (.int _)⟩
  · cases e
def intD : List D → Option D
  | [.int i] => some (.int i)
  | [.bool b] => some (.int (if b then 1 else 0))
  | _ => none
theorem o_int : OpN c (fun xs H Q => (∃ i, xs = [.int i] ∧ Q (.int i) H) ∨ ∃ k, xs = [.bl k] ∧ Q (.int (if k then 1 else 0)) H) intD := by
  intro O H xs vs d al e q Q k
  unfold intD at e
  split at e
  · rename_i i
    have e := Option.some.inj e
    subst e
    obtain ⟨x, rfl, q1⟩ := dpa_one q
    have e2 := dp_int q1
    subst e2
    exact .inl ⟨i, rfl, k _ H (Grow.refl _ _) (.int _)⟩
  · rename_i b
    have e := Option.some.inj e
    subst e
    obtain ⟨x, rfl, q1⟩ := dpa_one q
    have e2 := dp_bool q1
    subst e2
    exact .inr ⟨b, rfl, k _ H (Grow.refl _ _) (.int _)⟩
  · cases e
def tupD : List D → Option D
  | [.list xs] => some (.tuple xs)
  | [.tuple xs] => some (.tuple xs)
  | _ => none
def rTupOf (K : PySem.W.Frag) : List V → Hp → VK → Prop := fun xs H Q => ∃ p ys, xs = [.ref p] ∧ ((SqL K H p ys ∧ ∀ l, H l = none → Q (.ref l) (upd H l (.tup ys))) ∨ (SqT K H p ys ∧ Q (.ref p) H))
theorem o_tup (hK : c.K = X.K) : OqN c (rTupOf X.K) tupD := by
  intro O H x v d al e q Q k
  cases v with
  | list ds =>
    have e := Option.some.inj (show some (PyData.tuple ds) = some d from e)
    subst e
    obtain ⟨a, xs, rfl, h1, h2⟩ := q
    exact ⟨a, xs, rfl, .inl ⟨hK ▸ h1, fun p hp => k _ _ (Grow.new hp) (dp_newT hp (fresh_of al hp) h2)⟩⟩
  | tuple ds =>
    have e := Option.some.inj (show some (PyData.tuple ds) = some d from e)
    subst e
    obtain ⟨a, xs, rfl, h1, h2⟩ := dp_tup q
    exact ⟨a, xs, rfl, .inr ⟨hK ▸ (Sub.cut O H).sqt h1, k _ H (Grow.refl _ _) (.tup h1 h2)⟩⟩
  | none => cases e
  | bool _ => cases e
  | int _ => cases e
  | str _ => cases e
  | dict _ => cases e
theorem one_tup {vs : List D} {d : D} (e : tupD vs = some d) : ∃ v, vs = [v] := by
  unfold tupD at e
  split at e <;> first | exact ⟨_, rfl⟩ | cases e
def lstD : List D → Option D
  | [.list xs] => some (.list xs)
  | [.tuple xs] => some (.list xs)
  | _ => none
def rLstOf (K : PySem.W.Frag) : List V → Hp → VK → Prop := fun xs H Q => ∃ p ys, xs = [.ref p] ∧ (SqL K H p ys ∨ SqT K H p ys) ∧ ∀ l, H l = none → Q (.ref l) (upd H l (.lst ys))
theorem o_lst (hK : c.K = X.K) : OqN c (rLstOf X.K) lstD := by
  intro O H x v d al e q Q k
  cases v with
  | list ds =>
    have e := Option.some.inj (show some (PyData.list ds) = some d from e)
    subst e
    obtain ⟨a, xs, rfl, h1, h2⟩ := q
    exact ⟨a, xs, rfl, .inl (hK ▸ h1), fun p hp => k _ _ (Grow.new hp) (dp_newL hp (fresh_of al hp) h2)⟩
  | tuple ds =>
    have e := Option.some.inj (show some (PyData.list ds) = some d from e)
    subst e
    obtain ⟨a, xs, rfl, h1, h2⟩ := dp_tup q
    exact ⟨a, xs, rfl, .inr (hK ▸ (Sub.cut O H).sqt h1), fun p hp => k _ _ (Grow.new hp) (dp_newL hp (fresh_of al hp) h2)⟩
  | none => cases e
  | bool _ => cases e
  | int _ => cases e
  | str _ => cases e
  | dict _ => cases e
theorem one_lst {vs : List D} {d : D} (e : lstD vs = some d) : ∃ v, vs = [v] := by
  unfold lstD at e
  split at e <;> first | exact ⟨_, rfl⟩ | cases e
/-! ### items and slices -/
def ixD : D → D → Option D
  | .list xs, .int i => atI xs i
  | .tuple xs, .int i => atI xs i
  | .str z, .int i => if z.length ≤ sizeLine then (atI z.cps.toList i).map fun k => .str ⟨#[k]⟩ else none
  | _, _ => none
theorem dpa_at {K : PySem.W.Frag} {G : Hp} {ds : List D} {xs : List V} {i : Int} {d : D} (q : DpAll K G xs ds) (h : atI ds i = some d) : ∃ v, atI xs i = some v ∧ Dp K G v d := by
  unfold atI at h ⊢
  rw [dpa_len q]
  cases z : ixN ds.length i with
  | none => rw [z] at h; cases h
  | some j =>
    rw [z] at h
    exact dpa_get q h
theorem o_ix (hK : c.K = X.K) : Oq2 c (rIx X.K) ixD := by
  intro O H x y v w d al e q1 q2 Q k
  cases v with
  | list ds =>
    cases w with
    | int i =>
      obtain ⟨a, xs, rfl, h1, h2⟩ := q1
      obtain ⟨u, e1, e2⟩ := dpa_at h2 e
      exact .inl ⟨a, xs, i, u, rfl, dp_int q2, hK ▸ h1, e1, k _ H (Grow.refl _ _) e2⟩
    | _ => cases e
  | tuple ds =>
    cases w with
    | int i =>
      obtain ⟨a, xs, rfl, h1, h2⟩ := dp_tup q1
      obtain ⟨u, e1, e2⟩ := dpa_at h2 e
      exact .inr (.inl ⟨a, xs, i, u, rfl, dp_int q2, hK ▸ (Sub.cut O H).sqt h1, e1, k _ H (Grow.refl _ _) e2⟩)
    | _ => cases e
  | str z =>
    cases w with
    | int i =>
      have e : (if z.length ≤ sizeLine then (atI z.cps.toList i).map fun k => PyData.str ⟨#[k]⟩ else none) = some d := e
      split at e
      · rename_i h
        cases e1 : atI z.cps.toList i with
        | none => rw [e1] at e; cases e
        | some n =>
          rw [e1] at e
          have e := Option.some.inj e
          subst e
          exact .inr (.inr ⟨z, i, n, dp_str q1, dp_int q2, h, e1, k _ H (Grow.refl _ _) (.str _)⟩)
      · cases e
    | _ => cases e
  | none => cases e
  | bool _ => cases e
  | int _ => cases e
  | dict _ => cases e
end
end DL

namespace DL
open PySem PySem.Spec L2
section
variable {X : Cx} {c : Cf} {W : WX} {a b : Expr} {f g h : M D} {pos : Pos}
/-! ### slices -/
theorem SlR.or2 {r r' : V → Option Int → Option Int → Hp → VK → Prop} (h : SlR X r) (h' : SlR X r') : SlR X (fun x lo hi H Q => r x lo hi H Q ∨ r' x lo hi H Q) := SlR.or h h'
def cutD (xs : List D) (lo hi : Option Int) : List D := (xs.drop (HT.sIx xs.length 0 lo)).take (HT.sIx xs.length xs.length hi - HT.sIx xs.length 0 lo)
theorem dpa_cut {K : PySem.W.Frag} {G : Hp} {ds : List D} {xs : List V} (q : DpAll K G xs ds) (lo hi : Option Int) : DpAll K G (cutV xs lo hi) (cutD ds lo hi) := by
  unfold cutV cutD
  rw [dpa_len q]
  exact dpa_take _ (dpa_drop _ q)
theorem cutD_all {ds : List D} {lo hi : Option Int} (h : HT.sIx ds.length 0 lo = 0 ∧ HT.sIx ds.length ds.length hi = ds.length) : cutD ds lo hi = ds := by
  unfold cutD
  rw [h.1, h.2, List.drop_zero, Nat.sub_zero, List.take_length]
def slD (d : D) (lo hi : Option Int) : Option D := match d with
  | .list xs => some (.list (cutD xs lo hi))
  | .tuple xs => some (.tuple (cutD xs lo hi))
  | .str z => if z.length ≤ sizeLine then some (.str (cutS z lo hi)) else none
  | _ => none
def rSlAny (K : PySem.W.Frag) : V → Option Int → Option Int → Hp → VK → Prop := fun x lo hi H Q => (rSlL K x lo hi H Q ∨ rSlA K x lo hi H Q) ∨ rSlS x lo hi H Q
theorem sl_any : SlR X (rSlAny X.K) := SlR.or (SlR.or sl_list sl_tupA) sl_str
def mPart (p : Option (M D)) : M (Option Int) := match p with
  | none => fun s => .ok none s
  | some f => mMap f fun d => match d with | .int i => some (some i) | _ => none
def mSl (f : M D) (lo hi : M (Option Int)) : M D := fun s => (f s).bind fun d s1 => (lo s1).bind fun l s2 => (hi s2).bind fun u s3 => lift (slD d l u) s3
def SemP (c : Cf) (W : WX) (to : TO) (f : M (Option Int)) : Prop := ∀ O A σ H s, Rel c O A σ H s → ∀ Q : Option Int → Hp → Prop, Wp c W O A σ H (f s) (fun o _ H' => Q o H') → to σ H Q
def DP (c : Cf) (X : Cx) (W : WX) (e : Option Expr) (f : M (Option Int)) : Prop := ∃ to, PO X e to ∧ SemP c W to f
theorem p_none : DP c X W none (mPart none) := ⟨_, po_none, fun O A σ H s r Q w => w H (Stp.refl _ _) r⟩
theorem p_some (he : DE c X W a f) : DP c X W (some a) (mPart (some f)) := by
  obtain ⟨te, pe, se⟩ := he
  refine ⟨_, po_some pe, ?_⟩
  intro O A σ H s r Q w
  refine se O A σ H s r _ (Wp.mono (Wp.bind w) ?_)
  intro d s1 H1 _ f1 r1 w1 v q
  cases d with
  | int i => exact ⟨i, dp_int q, w1 H1 (Stp.refl _ _) r1⟩
  | none => exact w1.elim
  | bool _ => exact w1.elim
  | str _ => exact w1.elim
  | list _ => exact w1.elim
  | tuple _ => exact w1.elim
  | dict _ => exact w1.elim
theorem d_sl {lo hi : Option Expr} {fl fh : M (Option Int)} {p2 : Pos} (he : DE c X W a f) (hl : DP c X W lo fl) (hh : DP c X W hi fh) (hK : c.K = X.K := by rfl) : DE c X W (.Subscript a (.Slice lo hi none p2) pos) (mSl f fl fh) := by
  obtain ⟨te, pe, se⟩ := he
  obtain ⟨tl, pl, sl⟩ := hl
  obtain ⟨th, ph, sh⟩ := hh
  refine ⟨_, pe_slice sl_any pe pl ph, ?_⟩
  intro O A σ H s r Q w
  refine se O A σ H s r _ (Wp.mono (Wp.bind w) ?_)
  intro d s1 H1 _ f1 r1 w1 v q
  refine sl O A σ H1 s1 r1 _ (Wp.mono (Wp.bind w1) ?_)
  intro l s2 H2 _ f2 r2 w2
  refine sh O A σ H2 s2 r2 _ (Wp.mono (Wp.bind w2) ?_)
  intro u s3 H3 _ f3 r3 w3
  have q := Sub.dp (f3.fwd r2.sub) (Sub.dp (f2.fwd r1.sub) q)
  cases d with
  | list ds =>
    obtain ⟨p, xs, rfl, h1, h2⟩ := dp_list q
    refine .inl (.inl ⟨p, xs, rfl, hK ▸ (Sub.cut O H3).sql h1, fun y hy => ?_⟩)
    exact w3 _ ((Grow.new (c := c) hy).stp A) (r3.grow (Grow.new hy)) _ (dp_newL hy (r3.fresh hy) (dpa_cut h2 l u))
  | tuple ds =>
    obtain ⟨p, xs, rfl, h1, h2⟩ := dp_tup q
    have e := dpa_len h2
    refine .inl (.inr ⟨p, xs, rfl, hK ▸ (Sub.cut O H3).sqt h1, fun hw => ?_, fun _ y hy => ?_⟩)
    · rw [e] at hw
      have w3 := w3 H3 (Stp.refl _ _) r3 (.ref p)
      rw [cutD_all hw] at w3
      exact w3 (.tup h1 h2)
    · exact w3 _ ((Grow.new (c := c) hy).stp A) (r3.grow (Grow.new hy)) _ (dp_newT hy (r3.fresh hy) (dpa_cut h2 l u))
  | str z =>
    have e := dp_str q
    subst e
    have w3 : Wp c W O A σ H3 (lift (if z.length ≤ sizeLine then some (PyData.str (cutS z l u)) else none) s3) (PV c O Q) := w3
    split at w3
    · rename_i hz
      exact .inr ⟨z, rfl, hz, w3 H3 (Stp.refl _ _) r3 _ (.str _)⟩
    · exact w3.elim
  | none => exact w3.elim
  | bool _ => exact w3.elim
  | int _ => exact w3.elim
  | dict _ => exact w3.elim
/-- a slice of an owned list -/
def mSlO (i : Nat) (lo hi : M (Option Int)) : M D := fun s => match ownAt s i with
  | none => .bad
  | some _ => (lo s).bind fun l s2 => (hi s2).bind fun u s3 => match ownAt s3 i with
    | some ds => .ok (.list (cutD ds l u)) s3
    | none => .bad
theorem d_slo (i : Nat) {x : Str} {px : Pos} {lo hi : Option Expr} {fl fh : M (Option Int)} {p2 : Pos} (hl : DP c X W lo fl) (hh : DP c X W hi fh) (hN : X.N[i]? = some x := by rfl) (hv : Vis X.env.scope x := by first | exact Or.inl rfl | exact Or.inr (Or.inl rfl) | exact Or.inr (Or.inr rfl)) (hK : c.K = X.K := by rfl)
    (hd : (x == ("__debug__" : Str)) = false := by decide) (hcd : (x == ("__classdict__" : Str)) = false := by decide) : DE c X W (.Subscript (.Name x px) (.Slice lo hi none p2) pos) (mSlO i fl fh) := by
  obtain ⟨tl, pl, sl⟩ := hl
  obtain ⟨th, ph, sh⟩ := hh
  refine ⟨_, pe_slice sl_list (pe_var hN hv hd hcd) pl ph, ?_⟩
  intro O A σ H s r Q w
  unfold mSlO at w
  cases z0 : ownAt s i with
  | none => rw [z0] at w; exact w.elim
  | some ds0 =>
    rw [z0] at w
    obtain ⟨p, us, hσ, _, _, _⟩ := rel_own r z0
    refine ⟨.ref p, hσ, ?_⟩
    refine sl O A σ H s r _ (Wp.mono (Wp.bind w) ?_)
    intro l s2 H2 _ f2 r2 w2
    refine sh O A σ H2 s2 r2 _ (Wp.mono (Wp.bind w2) ?_)
    intro u s3 H3 _ f3 r3 w3
    cases z : ownAt s3 i with
    | none => rw [z] at w3; exact w3.elim
    | some ds =>
      rw [z] at w3
      obtain ⟨p', xs, hσ', _, h1, h2⟩ := rel_own r3 z
      rw [hσ] at hσ'
      cases hσ'
      refine ⟨p, xs, rfl, SqL.of h1, fun y hy => ?_⟩
      exact w3 _ ((Grow.new (c := c) hy).stp A) (r3.grow (Grow.new hy)) _ (dp_newL hy (r3.fresh hy) (dpa_cut h2 l u))

/-! ### isinstance -/
def tyN : D → String
  | .none => "NoneType"
  | .bool _ => "bool"
  | .int _ => "int"
  | .str _ => "str"
  | .list _ => "list"
  | .tuple _ => "tuple"
  | .dict _ => "dict"
def isiD (T : String) (d : D) : Option D := (kitB (tyN d) T).map .bool
theorem tyX_of {K : PySem.W.Frag} {O : List Addr} {H : Hp} {v : V} {d : D} (q : Dp K (cut O H) v d) : TyX K H v (.type (tyN d)) := by
  cases q with
  | non => exact .base .non
  | bl b => exact .base (.bl b)
  | int i => exact .base (.int i)
  | str x => exact .base (.str x)
  | lst h r =>
    rcases (Sub.cut O H).sql h with h | ⟨o, its, n, h1, h2, _⟩
    · rcases h with h | ⟨o, h⟩
      · exact .base (.lst h)
      · exact .base (.frz h)
    · exact .kList h1 h2
  | tup h r =>
    rcases (Sub.cut O H).sqt h with h | ⟨o, its, n, h1, h2, _⟩
    · rcases h with h | ⟨o, h⟩
      · exact .base (.tup h)
      · exact .fTuple h
    · exact .kTuple h1 h2
theorem d_isi {T : String} {x xT : Str} {p pT : Pos} (he : DE c X W a f) (hm : X.mg x = none) (hbv : bootBuiltins x = some (.builtin "isinstance")) (hmT : X.mg xT = none) (hbT : bootBuiltins xT = some (.type T)) (hg : Gl X x := by rfl) (hgT : Gl X xT := by rfl) (hK : c.K = X.K := by rfl)
    (hn : x ≠ "__name__" := by decide) (hdb : (x == ("__debug__" : Str)) = false := by decide) (hnT : xT ≠ "__name__" := by decide) (hdT : (xT == ("__debug__" : Str)) = false := by decide)
    (hs1 : starEach [a, .Name xT pT] X.env = (false, eval a X.env) :: starEach [.Name xT pT] X.env := by rfl) (hs2 : starEach [.Name xT pT] X.env = (false, eval (.Name xT pT) X.env) :: starEach [] X.env := by rfl)
    (hpl : (backTo pos (starEach [.Name xT pT] X.env)).any (·.1) = false := by rfl) : DE c X W (.Call (.Name x p) [a, .Name xT pT] [] pos) (mMap f (isiD T)) := by
  obtain ⟨te, pe, se⟩ := he
  refine ⟨_, pe_callB call_isi hg hm hbv (pa_cons pe (pa_cons (pe_bltn (v := .ty T) hgT hmT hbT rfl hnT hdT) pa_nil hs2) hs1) hn hdb hs1 hpl, ?_⟩
  intro O A σ H s r Q w
  refine se O A σ H s r _ (Wp.mono (Wp.bind w) ?_)
  intro d s1 H1 _ f1 r1 w1 v q
  have w1 : Wp c W O A σ H1 (lift ((kitB (tyN d) T).map PyData.bool) s1) (PV c O Q) := w1
  cases e : kitB (tyN d) T with
  | none => rw [e] at w1; exact w1.elim
  | some bv =>
    rw [e] at w1
    exact ⟨v, .ty T, .type (tyN d), .type T, bv, rfl, .ty T, hK ▸ tyX_of q, kit_ty e, w1 H1 (Stp.refl _ _) r1 _ (.bl _)⟩
/-! ### the module's constants -/
theorem d_glob {x : Str} {v : V} {u : Value} {d : D} (hm : X.mg x = some u) (rv : RelV v u) (q : ∀ H, Dp c.K H v d) (hg : Gl X x := by rfl) (hd : (x == ("__debug__" : Str)) = false := by decide) : DE c X W (.Name x pos) (mC d) := ⟨_, pe_glob hg hm rv hd, sem_c q⟩
theorem d_globI {x : Str} {i : Int} {t : Tok} (hm : X.mg x = some (.int i t)) (hg : Gl X x := by rfl) (hd : (x == ("__debug__" : Str)) = false := by decide) : DE c X W (.Name x pos) (mC (.int i)) := d_glob (v := .int i) hm ⟨t, rfl⟩ (fun _ => .int i) hg hd
end
theorem kit_s_s : kitB "str" "str" = some true := by decide +kernel
theorem kit_t_t : kitB "tuple" "tuple" = some true := by decide +kernel
theorem kit_n_t : kitB "NoneType" "tuple" = some false := by decide +kernel
end DL

/-! any, all of a generator expression whose element may call. -/
namespace DL
open PySem PySem.Spec L2 GenW
open PyProof.Rows (AllBare)
/-- the context of a generator expression's frame -/
abbrev gCx (X : Cx) (B : Around) (s : Shared) (H : Hp) (genv : Env) (fp : List Addr) (pn : List (Addr × Obj)) : Cx :=
  { X with A := B.deeper genv, s_0 := s, H_0 := H, env := genv, outer := X.stack, stack := genv :: X.stack, ex := fp, fn := fun _ => false, calm := true, pn := pn, xe := fun _ _ => False }
theorem inv_like {X : Cx} {pins : List (Addr × Obj)} {σ : St} {H : Hp} {s s' : Shared} (I : Inv X pins σ H s) (hh : s'.heap = s.heap) (ho : s'.os = s.os) (hb : AllBare s'.gens) : Inv X pins σ H s' :=
  ⟨I.ok, ho.trans I.os, hb, by rw [hh]; exact I.base, by rw [hh]; exact I.loc, by rw [hh]; exact I.cell, I.free, I.freeC, by rw [hh]; exact I.pin, by rw [hh]; exact I.hok, I.len⟩
/-- an item is handed out -/
def gY (G : Cx) (σw : St) (d : Bool) (Qt : Hp → Prop) : Protocol := fun n s₀ v s kap =>
  ∃ (b : Bool) (H : Hp), v = .bool b ∧ Inv G [] σw H s ∧ (b = d → Qt H) ∧ (b ≠ d → ∀ s'' : Shared, s''.heap = s.heap → s''.os = s.os → AllBare s''.gens → kap (.send .none) s'')
def gR (G : Cx) (σw : St) (Qf : Hp → Prop) : GenEnd := fun n s₀ r s₁ => ((r = .ok (.ret .none) ∨ r = .ok .next) ∧ ∃ H, Inv G [] σw H s₁ ∧ Qf H) ∨ ∃ e, r = .error e ∧ False
theorem seg_yield0 {M : Model} {A : Around} {R : GenEnd} {Y : Protocol} {n : Nat} {s₀ : Shared} {c : Code} {fs : List Frame} {s : Shared} {v : Value} {g : Bool} {l : List Value} {k : Resume → Sem PySem.Fin} (hfs : splitAtGen fs = none) (hg : g = false) (hfg : fs.any Frame.guarded = false)
    (h : Y (n - 1) s₀ v s fun r s'' => Seg.next M A R Y n c (k r) fs s'') : Seg M A R Y n s₀ c (.yield v g l k) fs s := by
  rw [seg_iff]
  rintro Γ p rfl _
  exact ⟨_, s, Runs.yield' fs hfs, And.intro (by simp [End.quiet, hg, hfg]) h⟩
section
variable {X : Cx} {B : Around} {s0 : Shared} {H0 : Hp} {genv : Env} {fp : List Addr} {pn : List (Addr × Obj)} {it : Addr} {tn : Nat → Heap → Prop} {J : It} {tg iter elt : Expr} {scope : Scope} {pos : Pos} {σ : St} {vs : List Nat} {g : TG} {te : TE}
/-- what the walk needs -/
def aTurn (J : It) (g : TG) (te : TE) (vs : List Nat) (σ : St) (d : Bool) (W : Nat → Nat → Hp → Prop) (Qt Qf : Hp → Prop) : Prop :=
  ∀ i m H, W i m H → (J.stop i H ∧ Qf H) ∨ (J.go i H ∧ ∃ Nx : Hp → Prop, (∀ H', Nx H' → ∃ m', m' < m ∧ W (i + 1) m' H') ∧ ∀ x H', J.yld i H x H' → g x (wipe σ vs) H' fun σ2 H2 => wipe σ2 vs = wipe σ vs ∧ te σ2 H2 fun y H3 => ∃ b, y = .bl b ∧ if b = d then Qt H3 else Nx H3)
theorem gen_seg {d : Bool} {W : Nat → Nat → Hp → Prop} {Qt Qf : Hp → Prop} (hco : genv.scope.isCoroutine = false) (hpn : ∀ p ∈ pn, ∀ b ∈ fp, p.1 ≠ b) (T : Turn X.prog X.w X.K tg J fp it tn) (pg : PG (gCx X B s0 H0 genv fp pn) tg g) (pe : PE (gCx X B s0 H0 genv fp pn) elt te)
    (turn : aTurn J g te vs σ d W Qt Qf) : ∀ (n i m : Nat) (s₀ s : Shared) (H : Hp), m ≤ n → W i m H → Inv (gCx X B s0 H0 genv fp pn) [] (wipe σ vs) H s → tn i s.heap → (∀ b ∈ fp, H b = none) →
      Seg (model X.prog X.w) B (gR (gCx X B s0 H0 genv fp pn) (wipe σ vs) Qf) (gY (gCx X B s0 H0 genv fp pn) (wipe σ vs) d Qt) n s₀ (.compLoop (.GeneratorExp elt [⟨tg, iter, [], 0⟩] scope pos) 0 (.ref it) .none genv)
        ((model X.prog X.w).den (.compLoop (.GeneratorExp elt [⟨tg, iter, [], 0⟩] scope pos) 0 (.ref it) .none genv)) [] s := by
  have stat : ∀ {σ' : St} {H' : Hp} {s' : Shared}, Inv (gCx X B s0 H0 genv fp pn) [] σ' H' s' → (∀ b ∈ fp, H' b = none) → ∀ b ∈ fp, FpOk (gCx X B s0 H0 genv fp pn) [] H' b := fun {σ' H' s'} I' hn b hb =>
    ⟨hn b hb, (I'.ok.exf b hb).1, I'.ok.exfs b hb, .inl hb, fun x c e => (I'.ok.exf b hb).2 x c e, fun p hp => hpn p (by simpa using hp) b hb⟩
  have hy : ∀ v, yieldOut genv v = yieldValue v := fun v => by simp only [yieldOut, hco, Bool.false_eq_true, if_false]
  intro n
  induction n with
  | zero =>
    intro i m s₀ s H hm w I st nf
    show Seg _ B _ _ _ s₀ _ ((compTurn (.GeneratorExp elt [⟨tg, iter, [], 0⟩] scope pos) 0 (.ref it) .none genv).onRaise (leaving genv)) [] s
    rw [compTurn_gen, Sem.onRaise_eq_wrap]
    refine seg_bind_wrap (wpAny_standAt ?_)
    rcases turn i m H w with ⟨stop, qq⟩ | ⟨go, Nx, hNx, step⟩
    · have td := T.done (gCx X B s0 H0 genv fp pn) rfl rfl rfl rfl i [] s _ H (fun _ _ => False) I (stat I nf) st stop
      refine seg_bind_wrap (thnF td fun r s6 ⟨hr, I6⟩ => ?_)
      subst hr
      exact seg_end (.ok .next) (.inl ⟨.inr rfl, H, I6, qq⟩)
    · have ti := T.item (gCx X B s0 H0 genv fp pn) rfl rfl rfl rfl i [] s _ H (fun _ _ => False) I (stat I nf) st go
      refine seg_bind_wrap (thnF ti fun r s6 ⟨u, hr, h6⟩ => ?_)
      subst hr
      refine seg_bind_wrap (thnF h6 fun _ s7 ⟨x, H7, I7, r7, y7, st7, n7⟩ => ?_)
      have I7' := I7.pinned (stat I7 n7) (T.obj _ _ st7)
      refine seg_bind_wrap (thnF (pg.run _ s7 _ H7 x u _ I7' r7 (step x H7 y7)) fun _ s8 ⟨σ8, H8, I8, hw8, q8⟩ => ?_)
      refine seg_bind_wrap (wpAny_of_eq (List.forIn_nil ..) ?_)
      simp only [if_true, hy]
      rw [Sem.bind_eq_wrap', Sem.bind_eq_wrap', Sem.wrap_wrap, Sem.wrap_wrap]
      refine seg_wrap (thnF (pe.run _ s8 σ8 H8 _ I8 q8) fun y s9 ⟨yv, H9, I9, r9, b, eb, q9⟩ => ?_)
      subst eb
      cases r9
      have hl : (wipe σ vs).length = σ8.length := by rw [← hw8, wipe_length]
      have I9' := (I9.unpinned (pins := [])).weak hl (fun j v e => by rw [← hw8] at e; exact (wipe_some e).1)
      refine seg_at (seg_yield0 rfl rfl rfl ⟨b, H9, rfl, I9', fun e => ?_, fun ne => ?_⟩)
      · rw [if_pos e] at q9; exact q9
      · rw [if_neg ne] at q9
        obtain ⟨m', h1, _⟩ := hNx _ q9
        omega
  | succ n ih =>
    intro i m s₀ s H hm w I st nf
    show Seg _ B _ _ _ s₀ _ ((compTurn (.GeneratorExp elt [⟨tg, iter, [], 0⟩] scope pos) 0 (.ref it) .none genv).onRaise (leaving genv)) [] s
    rw [compTurn_gen, Sem.onRaise_eq_wrap]
    refine seg_bind_wrap (wpAny_standAt ?_)
    rcases turn i m H w with ⟨stop, qq⟩ | ⟨go, Nx, hNx, step⟩
    · have td := T.done (gCx X B s0 H0 genv fp pn) rfl rfl rfl rfl i [] s _ H (fun _ _ => False) I (stat I nf) st stop
      refine seg_bind_wrap (thnF td fun r s6 ⟨hr, I6⟩ => ?_)
      subst hr
      exact seg_end (.ok .next) (.inl ⟨.inr rfl, H, I6, qq⟩)
    · have ti := T.item (gCx X B s0 H0 genv fp pn) rfl rfl rfl rfl i [] s _ H (fun _ _ => False) I (stat I nf) st go
      refine seg_bind_wrap (thnF ti fun r s6 ⟨u, hr, h6⟩ => ?_)
      subst hr
      refine seg_bind_wrap (thnF h6 fun _ s7 ⟨x, H7, I7, r7, y7, st7, n7⟩ => ?_)
      have I7' := I7.pinned (stat I7 n7) (T.obj _ _ st7)
      refine seg_bind_wrap (thnF (pg.run _ s7 _ H7 x u _ I7' r7 (step x H7 y7)) fun _ s8 ⟨σ8, H8, I8, hw8, q8⟩ => ?_)
      refine seg_bind_wrap (wpAny_of_eq (List.forIn_nil ..) ?_)
      simp only [if_true, hy]
      rw [Sem.bind_eq_wrap', Sem.bind_eq_wrap', Sem.wrap_wrap, Sem.wrap_wrap]
      refine seg_wrap (thnF (pe.run _ s8 σ8 H8 _ I8 q8) fun y s9 ⟨yv, H9, I9, r9, b, eb, q9⟩ => ?_)
      subst eb
      cases r9
      have hl : (wipe σ vs).length = σ8.length := by rw [← hw8, wipe_length]
      have pin' : ∀ b ∈ fp, ∀ o, s7.heap.get? b = some o → s9.heap.get? b = some o ∧ H9 b = none := fun b hb o e =>
        let z := I9.pin (b, o) (List.mem_append_right _ (List.mem_append_right _ (mem_pinsAt hb e)))
        ⟨z.1, z.2.1⟩
      have I9' := (I9.unpinned (pins := [])).weak hl (fun j v e => by rw [← hw8] at e; exact (wipe_some e).1)
      refine seg_at (seg_yield0 rfl rfl rfl ⟨b, H9, rfl, I9', fun e => ?_, fun ne s'' eh eo hb => ?_⟩)
      · rw [if_pos e] at q9; exact q9
      · rw [if_neg ne] at q9
        obtain ⟨m', h1, w'⟩ := hNx _ q9
        refine seg_again rfl (ih (i + 1) m' s'' s'' H9 (by omega) w' (inv_like I9' eh eo hb) ?_ fun b hb => ?_)
        · exact T.keep _ _ _ st7 fun b hb o e => by rw [eh]; exact (pin' b hb o e).1
        · obtain ⟨o, e, _⟩ := T.obj _ _ st7 b hb
          exact (pin' b hb o e).2
end

theorem gen_any {G : Cx} {σw : St} {Qt Qf : Hp → Prop} {A : Around} {R : Result → Shared → Prop} {a : Addr} {g : Nat} (hh : A.handled = none) (hd : A.in1.depth < recursionLimit)
    (hgen : ∀ H s, Inv G [] σw H s → s.heap.IsGen a g) (ht : ∀ H s', Inv G [] σw H s' → Qt H → R (.ok (.ret (.bool true))) s') (hf : ∀ H s', Inv G [] σw H s' → Qf H → R (.ok (.ret (.bool false))) s') :
    ∀ (n : Nat) (s : Shared) (H : Hp), Inv G [] σw H s → (∃ gs, s.gens[g]? = some gs ∧ gs.Goes (model G.prog G.w) A.in1.in1 (gR G σw Qf) (gY G σw true Qt) n (.send .none) (s.setGen g .running)) →
      codeAny (model G.prog G.w) A (.builtin "any.loop" ⟨[.ref a], []⟩) R s := by
  have goes : ∀ {gs : GenState} {B : Around} {n : Nat} {r : Resume} {s : Shared}, gs.Goes (model G.prog G.w) B (gR G σw Qf) (gY G σw true Qt) n r s →
      gs.Goes (model G.prog G.w) B (fun n s₀ r s1 => ((r = .ok (.ret .none) ∨ r = .ok .next) ∧ (∃ H, Inv G [] σw H s1 ∧ Qf H)) ∨ ∃ e, r = .error e ∧ (fun _ _ => False) e s1) (gY G σw true Qt) n r s := fun h => h
  have fin : ∀ (s₁ : Shared) (h' : Heap), (∀ b o, s₁.heap.get? b = some o → h'.get? b = some o) → (∃ H, Inv G [] σw H s₁ ∧ Qf H) → R (.ok (.ret (.bool false))) { s₁.setGen g .finished with heap := h' } := fun s₁ h' hk ⟨H, I, q⟩ => by
    have J := I.kept (t' := s₁.toks) hk
    exact hf H _ (inv_like J rfl rfl (allBare_setGen (s := s₁) I.bare rfl)) q
  intro n
  induction n with
  | zero =>
    intro s H I ⟨gs, hgs, hgo⟩
    refine codeAny_builtin F.entry_any_loop ?_
    rw [Around.under_plainId F.plain_any_loop _]
    show wpAny _ A.in1 (pyNext (.ref a) >>= _) _ _ s
    refine wpAny_bind (next_genG (A := A.in1) hh I.nolimit hd (hgen H s I) hgs (goes hgo) (fun v s₁ gs' hbare hv => ?_) (fun s₁ hp h' hk => ?_) fun e s₁ he => he.elim)
    · obtain ⟨b, H1, rfl, I1, q1, q2⟩ := hv
      refine wpAny_bind (wpAny_holding (wpAny_truthy_bool ?_))
      refine wpAny_bind (wpAny_letGo ?_)
      by_cases e : b = true
      · subst e
        refine wpAny_bind (wpAny_rule (wpAny_pure ?_))
        exact ht H1 _ (inv_like I1 rfl rfl (allBare_setGen (s := s₁) I1.bare hbare)) (q1 rfl)
      · exact (q2 e s₁ rfl rfl I1.bare).elim
    · exact wpAny_bind (wpAny_rule (wpAny_pure (fin s₁ h' hk hp)))
  | succ n ih =>
    intro s H I ⟨gs, hgs, hgo⟩
    have hgl : g < s.gens.size := (Array.getElem?_eq_some_iff.mp hgs).1
    refine codeAny_builtin F.entry_any_loop ?_
    rw [Around.under_plainId F.plain_any_loop _]
    show wpAny _ A.in1 (pyNext (.ref a) >>= _) _ _ s
    refine wpAny_bind (GenW.wpAny_gsz (n := g + 1) hgl (next_genG (A := A.in1) hh I.nolimit hd (hgen H s I) hgs (goes hgo) (fun v s₁ gs' hbare hv => ?_) (fun s₁ hp h' hk => ?_) fun e s₁ he => he.elim))
    · intro hsz
      obtain ⟨b, H1, rfl, I1, q1, q2⟩ := hv
      refine wpAny_bind (wpAny_holding (wpAny_truthy_bool ?_))
      refine wpAny_bind (wpAny_letGo ?_)
      have J : Inv G [] σw H1 (s₁.setGen g gs') := inv_like I1 rfl rfl (allBare_setGen (s := s₁) I1.bare hbare)
      by_cases e : b = true
      · subst e
        exact wpAny_bind (wpAny_rule (wpAny_pure (ht H1 _ J (q1 rfl))))
      · have e2 : b = false := by cases b <;> first | rfl | exact absurd rfl e
        subst e2
        refine wpAny_pure ⟨plainId_quiet F.plain_any_loop _, ?_⟩
        have hsz1 : g < s₁.gens.size := by
          have q : (s₁.setGen g gs').gens.size = s₁.gens.size := GenW.setGen_size _ _ _
          have hsz' : g + 1 ≤ (s₁.setGen g gs').gens.size := hsz
          omega
        refine ih (s₁.setGen g gs') H1 J ⟨gs', setGen_at hsz1, ?_⟩
        exact q2 e _ rfl rfl (allBare_setGen (s := s₁.setGen g gs') J.bare rfl)
    · intro hsz
      exact wpAny_bind (wpAny_rule (wpAny_pure (fin s₁ h' hk hp)))

theorem gen_all {G : Cx} {σw : St} {Qt Qf : Hp → Prop} {A : Around} {R : Result → Shared → Prop} {a : Addr} {g : Nat} (hh : A.handled = none) (hd : A.in1.depth < recursionLimit)
    (hgen : ∀ H s, Inv G [] σw H s → s.heap.IsGen a g) (ht : ∀ H s', Inv G [] σw H s' → Qt H → R (.ok (.ret (.bool false))) s') (hf : ∀ H s', Inv G [] σw H s' → Qf H → R (.ok (.ret (.bool true))) s') :
    ∀ (n : Nat) (s : Shared) (H : Hp), Inv G [] σw H s → (∃ gs, s.gens[g]? = some gs ∧ gs.Goes (model G.prog G.w) A.in1.in1 (gR G σw Qf) (gY G σw false Qt) n (.send .none) (s.setGen g .running)) →
      codeAny (model G.prog G.w) A (.builtin "all.loop" ⟨[.ref a], []⟩) R s := by
  have goes : ∀ {gs : GenState} {B : Around} {n : Nat} {r : Resume} {s : Shared}, gs.Goes (model G.prog G.w) B (gR G σw Qf) (gY G σw false Qt) n r s →
      gs.Goes (model G.prog G.w) B (fun n s₀ r s1 => ((r = .ok (.ret .none) ∨ r = .ok .next) ∧ (∃ H, Inv G [] σw H s1 ∧ Qf H)) ∨ ∃ e, r = .error e ∧ (fun _ _ => False) e s1) (gY G σw false Qt) n r s := fun h => h
  have fin : ∀ (s₁ : Shared) (h' : Heap), (∀ b o, s₁.heap.get? b = some o → h'.get? b = some o) → (∃ H, Inv G [] σw H s₁ ∧ Qf H) → R (.ok (.ret (.bool true))) { s₁.setGen g .finished with heap := h' } := fun s₁ h' hk ⟨H, I, q⟩ => by
    have J := I.kept (t' := s₁.toks) hk
    exact hf H _ (inv_like J rfl rfl (allBare_setGen (s := s₁) I.bare rfl)) q
  intro n
  induction n with
  | zero =>
    intro s H I ⟨gs, hgs, hgo⟩
    refine codeAny_builtin F.entry_all_loop ?_
    rw [Around.under_plainId F.plain_all_loop _]
    show wpAny _ A.in1 (pyNext (.ref a) >>= _) _ _ s
    refine wpAny_bind (next_genG (A := A.in1) hh I.nolimit hd (hgen H s I) hgs (goes hgo) (fun v s₁ gs' hbare hv => ?_) (fun s₁ hp h' hk => ?_) fun e s₁ he => he.elim)
    · obtain ⟨b, H1, rfl, I1, q1, q2⟩ := hv
      refine wpAny_bind (wpAny_holding (wpAny_truthy_bool ?_))
      refine wpAny_bind (wpAny_letGo ?_)
      by_cases e : b = false
      · subst e
        refine wpAny_bind (wpAny_rule (wpAny_pure ?_))
        exact ht H1 _ (inv_like I1 rfl rfl (allBare_setGen (s := s₁) I1.bare hbare)) (q1 rfl)
      · exact (q2 e s₁ rfl rfl I1.bare).elim
    · exact wpAny_bind (wpAny_rule (wpAny_pure (fin s₁ h' hk hp)))
  | succ n ih =>
    intro s H I ⟨gs, hgs, hgo⟩
    have hgl : g < s.gens.size := (Array.getElem?_eq_some_iff.mp hgs).1
    refine codeAny_builtin F.entry_all_loop ?_
    rw [Around.under_plainId F.plain_all_loop _]
    show wpAny _ A.in1 (pyNext (.ref a) >>= _) _ _ s
    refine wpAny_bind (GenW.wpAny_gsz (n := g + 1) hgl (next_genG (A := A.in1) hh I.nolimit hd (hgen H s I) hgs (goes hgo) (fun v s₁ gs' hbare hv => ?_) (fun s₁ hp h' hk => ?_) fun e s₁ he => he.elim))
    · intro hsz
      obtain ⟨b, H1, rfl, I1, q1, q2⟩ := hv
      refine wpAny_bind (wpAny_holding (wpAny_truthy_bool ?_))
      refine wpAny_bind (wpAny_letGo ?_)
      have J : Inv G [] σw H1 (s₁.setGen g gs') := inv_like I1 rfl rfl (allBare_setGen (s := s₁) I1.bare hbare)
      by_cases e : b = false
      · subst e
        exact wpAny_bind (wpAny_rule (wpAny_pure (ht H1 _ J (q1 rfl))))
      · have e2 : b = true := by cases b <;> first | rfl | exact absurd rfl e
        subst e2
        refine wpAny_pure ⟨plainId_quiet F.plain_all_loop _, ?_⟩
        have hsz1 : g < s₁.gens.size := by
          have q : (s₁.setGen g gs').gens.size = s₁.gens.size := GenW.setGen_size _ _ _
          have hsz' : g + 1 ≤ (s₁.setGen g gs').gens.size := hsz
          omega
        refine ih (s₁.setGen g gs') H1 J ⟨gs', setGen_at hsz1, ?_⟩
        exact q2 e _ rfl rfl (allBare_setGen (s := s₁.setGen g gs') J.bare rfl)
    · intro hsz
      exact wpAny_bind (wpAny_rule (wpAny_pure (fin s₁ h' hk hp)))

section
variable {X : Cx} {pins : List (Addr × Obj)} {σ : St} {H : Hp} {s : Shared} {B : Around}
theorem gen_inv {scope : Scope} {own : List (Str × Nat)} {fp : List Addr} {code : Value} {h' : Heap} {go : Obj} {m0 : Str → Option Value} {g' : Array GenState} {t' : Nat} (I : Inv X pins σ H s) (ok : BlkOk X.N X.env.scope scope own) (hN : X.N.Nodup) (hcell : ∀ y ∈ scope.names, y.2 ≠ .cell)
    (hfp : ∀ b ∈ fp, FpOk X pins H b ∧ b < s.heap.objs.size) (hB : B.frames = some X.stack) (hBh : B.handled = none) (hn : h'.Ns s.heap.objs.size m0) (kp : ∀ b o, s.heap.get? b = some o → h'.get? b = some o) (hsz : h'.objs.size = s.heap.objs.size + 1)
    (hgp : (h'.push go).get? h'.objs.size = some go) (hgd : ∀ v, go.data ≠ .cell v) (hb : AllBare g') :
    Inv (gCx X B s H (genEnv scope (cloFrom X.env.cells scope.names []) s.heap.objs.size code builtinsNs X.env) fp [(h'.objs.size, go)]) [] (wipe σ (own.map (·.2))) H { s with heap := h'.push go, gens := g', toks := t' } := by
  have hfree : ∀ y ∈ scope.names, y.2 = .free → ∃ c, X.env.cells.lookup y.1 = some c := fun y hy e => by
    rcases ok.free y hy e with k | k
    · exact I.ok.has _ (.inl k)
    · exact I.ok.has _ (.inr k)
  have cm : ∀ {y c}, (y, c) ∈ cloFrom X.env.cells scope.names [] → X.env.cells.lookup y = some c ∧ c < s.heap.objs.size := fun {y c} hm => by
    rcases cloFrom_mem hm with hm | ⟨h1, rfl⟩
    · cases hm
    · obtain ⟨c, hc⟩ := hfree _ h1 rfl
      rw [hc]
      obtain ⟨w, z⟩ := I.cell _ _ hc
      exact ⟨rfl, z.lt⟩
  have look : ∀ {y}, scope.names.lookup y = some .free → ∃ c, (cloFrom X.env.cells scope.names []).lookup y = some c ∧ X.env.cells.lookup y = some c := fun {y} hl => by
    have hy : (y, NameKind.free) ∈ scope.names := PySem.mem_of_lookup hl
    obtain ⟨c', e'⟩ := mem_lookup (cloFrom_has (cells := X.env.cells) (acc := []) hy)
    exact ⟨c', e', (cm (PySem.mem_of_lookup e')).1⟩
  have kp5 : ∀ b o, s.heap.get? b = some o → (h'.push go).get? b = some o := fun b o e => Heap.get?_push_of_some _ (kp b o e)
  have young : ∀ {b : Addr}, s.heap.objs.size ≤ b → b ∉ frs X.stack := fun {b} hb hm => by
    rcases List.mem_cons.mp (I.stkSub b hm) with z | z
    · exact absurd (Nat.lt_of_lt_of_le I.lt hb) (by rw [z]; exact Nat.lt_irrefl _)
    · exact I.nofs hb z
  have sga : s.heap.objs.size ≤ h'.objs.size := by rw [hsz]; exact Nat.le_succ _
  have okB : (gCx X B s H (genEnv scope (cloFrom X.env.cells scope.names []) s.heap.objs.size code builtinsNs X.env) fp [(h'.objs.size, go)]).Ok := by
    refine ⟨I.ok.mod, ok.kind, I.ok.glob, rfl, Nat.le_refl _, fun y z c e1 e2 => ?_, fun y hy => ?_, fun y c z e => (by cases (show false = true from z)), fun _ => hBh, Around.frames_deeper hB, .inr ⟨rfl, rfl⟩, fun b hb => ⟨Nat.ne_of_lt (hfp b hb).2, fun y c e z => ?_⟩, I.bs, Nat.le_trans I.ok.bsz I.sz, fun b o e hb => ?_, fun b hb z => ?_, I.stack, I.stkFree⟩
    · exact I.ok.inj y z c (cm (PySem.mem_of_lookup e1)).1 (cm (PySem.mem_of_lookup e2)).1
    · rcases hy with hy | hy
      · have hy : scope.names.lookup y = some .cell := hy
        exact absurd rfl (hcell _ (PySem.mem_of_lookup hy))
      · obtain ⟨c, h1, _⟩ := look hy
        exact ⟨c, h1⟩
    · exact (hfp b hb).1.2.2.2.2.1 y c (cm (PySem.mem_of_lookup e)).1 z
    · rcases (hfp b hb).1.2.2.2.1 with z | z
      · exact I.ok.noex b o e z
      · exact absurd (Nat.lt_of_lt_of_le (Heap.lt_size e) (Nat.le_trans I.ok.bsz z)) (Nat.lt_irrefl _)
    · rcases List.mem_cons.mp (I.stkSub b z) with z | z
      · exact (hfp b hb).1.2.1 z
      · exact (hfp b hb).1.2.2.1 z
  refine ⟨okB, rfl, hb, Un.kept kp5, ⟨m0, hn.push _, fun i y av e1 e2 e3 => ?_⟩, fun y c e => ?_, I.hok.fresh (Nat.le_refl _), fun y c e => ?_, fun p hp => ?_, I.hok.kept kp5, by rw [wipe_length]; exact I.len⟩
  · obtain ⟨e2, hne⟩ := wipe_some e2
    have hfr : scope.names.lookup y = some .free := by
      have no : ∀ k', scope.names.lookup y = some k' → ¬ (k' = .local ∨ k' = .cell) := fun k' e hh => by
        rcases ok.own _ (PySem.mem_of_lookup e) hh with e' | e'
        · obtain ⟨p, hp, hpy⟩ := List.mem_map.mp e'
          have e3 := ok.ix p hp
          have : p.1 = y := hpy
          rw [this] at e3
          exact hne (List.mem_map.mpr ⟨p, hp, nodup_ix hN e3 e1⟩)
        · exact e' (List.mem_of_getElem? e1)
      have e3 : Vis scope y := e3
      rcases e3 with e3 | e3 | e3
      · exact absurd (.inl rfl) (no _ e3)
      · exact absurd (.inr rfl) (no _ e3)
      · exact e3
    obtain ⟨m, hn, hl⟩ := I.loc
    have hvis : Vis X.env.scope y := (ok.free _ (PySem.mem_of_lookup hfr) rfl).elim (fun k => .inr (.inl k)) (fun k => .inr (.inr k))
    obtain ⟨w, r, q⟩ := hl i y av e1 e2 hvis
    refine ⟨w, r, .inr ⟨.inr hfr, ?_⟩⟩
    obtain ⟨c, h1, h2⟩ := look hfr
    rcases q with ⟨k, _⟩ | ⟨_, c', e', z⟩
    · have k : X.env.scope.names.lookup y = some .local := k
      rcases ok.free _ (PySem.mem_of_lookup hfr) rfl with k' | k' <;> rw [show X.env.scope.names.lookup y = _ from k'] at k <;> cases k
    · rw [h2] at e'; cases e'
      exact ⟨c, h1, z.keeps kp5⟩
  · obtain ⟨h1, _⟩ := cm (PySem.mem_of_lookup e)
    obtain ⟨w, z⟩ := I.cell y c h1
    exact ⟨w, z.keeps kp5⟩
  · exact I.freeC y c (cm (PySem.mem_of_lookup e)).1
  · have e : p = (h'.objs.size, go) := by simpa using hp
    subst e
    exact ⟨hgp, I.hok.fresh sga, by show h'.objs.size ≠ s.heap.objs.size; omega, young sga, hgd⟩
end

section
variable {X : Cx} {B : Around} {s0 : Shared} {H0 : Hp} {genv : Env} {fp : List Addr} {pn : List (Addr × Obj)} {it : Addr} {tn : Nat → Heap → Prop} {J : It} {tg iter elt : Expr} {scope : Scope} {pos : Pos} {σ : St} {vs : List Nat} {g : TG} {te : TE}
theorem gen_segS {d : Bool} {W : Nat → Nat → Hp → Prop} {Qt Qf : Hp → Prop} (hco : genv.scope.isCoroutine = false) (hpn : ∀ p ∈ pn, ∀ b ∈ fp, p.1 ≠ b) (T : Turn X.prog X.w X.K tg J fp it tn) (pg : PG (gCx X B s0 H0 genv fp pn) tg g) (pe : PE (gCx X B s0 H0 genv fp pn) elt te)
    (turn : aTurn J g te vs σ d W Qt Qf) (n m : Nat) (s₀ s : Shared) (H : Hp) (hm : m ≤ n) (w0 : W 0 m H) (I : Inv (gCx X B s0 H0 genv fp pn) [] (wipe σ vs) H s) (st : tn 0 s.heap) (nf : ∀ b ∈ fp, H b = none) :
      Seg (model X.prog X.w) B (gR (gCx X B s0 H0 genv fp pn) (wipe σ vs) Qf) (gY (gCx X B s0 H0 genv fp pn) (wipe σ vs) d Qt) n s₀ (.compStart (.GeneratorExp elt [⟨tg, iter, [], 0⟩] scope pos) 0 (.ref it) .none genv)
        ((model X.prog X.w).den (.compStart (.GeneratorExp elt [⟨tg, iter, [], 0⟩] scope pos) 0 (.ref it) .none genv)) [] s := by
  have loop := gen_seg (iter := iter) (scope := scope) (pos := pos) hco hpn T pg pe turn n 0 m s₀ s H hm w0 I st nf
  show Seg _ B _ _ _ s₀ _ ((compStart (.GeneratorExp elt [⟨tg, iter, [], 0⟩] scope pos) 0 (.ref it) .none genv).onRaise (leaving genv)) [] s
  unfold compStart
  rw [Sem.onRaise_eq_wrap]
  show Seg _ B _ _ _ s₀ _ ((ask >>= _).wrap _ _ _ _) [] s
  refine seg_bind_wrap (wpAny_askSetting ?_)
  split
  · exact seg_again rfl loop
  · first
      | exact seg_bind_wrap (wpAny_rule (seg_bind_wrap (wpAny_standAt (seg_bind_wrap (T.self _ 0 s _ _ st (seg_again rfl loop))))))
      | (refine seg_bind_wrap (wpAny_rule ?_); show Seg _ B _ _ _ s₀ _ ((standAt iter.pos >>= _).wrap _ _ _ _) [] s; exact seg_bind_wrap (wpAny_standAt (seg_bind_wrap (T.self _ 0 s _ _ st (seg_again rfl loop)))))
end
/-- any (d = true), all (d = false) of a generator expression; P the def's table -/
def tAny (d : Bool) (P : Addr) (wi : TI) (g : TG) (te : TE) (vs : List Nat) : TE := fun σ H Q => wi σ H fun J H1 => GxR.TabG H1 P ∧ ∀ H2, GxR.Tabbed P H1 H2 → ∃ W : Nat → Nat → Hp → Prop, (∃ m, W 0 m H2) ∧ aTurn J g te vs σ d W (fun H => Q (.bl d) H) (fun H => Q (.bl (!d)) H)
section
variable {X : Cx} {pins : List (Addr × Obj)} {σ : St} {H : Hp} {s : Shared}
theorem gen_make {k : Nat} {c P : Addr} {d : Bool} {elt tg iter : Expr} {scope : Scope} {own : List (Str × Nat)} {gpos : Pos} {wi : TI} {g : TG} {te : TE} {Q : VK} {Q' : Value → Shared → Prop}
    (hr : Room k X.A) (TB : GxR.TabB X.base X.mg c P) (hcode : X.env.code = .ref c) (hN : X.N.Nodup) (ok : BlkOk X.N X.env.scope scope own) (hco : scope.isCoroutine = false) (hcell : ∀ y ∈ scope.names, y.2 ≠ .cell) (h0 : scope.names.lookup (".0" : Str) = some NameKind.local)
    (hi : PI X tg iter wi) (hs : ∀ v, genFold iter X.env v = pure v)
    (hg : ∀ (s : Shared) (H : Hp) (C : Addr) (code : Value) (fp : List Addr) (pn : List (Addr × Obj)), PG (gCx X X.A.in1.in1 s H (genEnv scope (cloFrom X.env.cells scope.names []) C code builtinsNs X.env) fp pn) tg g)
    (he : ∀ (s : Shared) (H : Hp) (C : Addr) (code : Value) (fp : List Addr) (pn : List (Addr × Obj)), PE (gCx X X.A.in1.in1 s H (genEnv scope (cloFrom X.env.cells scope.names []) C code builtinsNs X.env) fp pn) elt te)
    (I : Inv X pins σ H s) (h : tAny d P wi g te (own.map (·.2)) σ H Q)
    (hQ : ∀ (G : Cx) (σw : St) (a : Addr) (gn n : Nat) (s5 : Shared) (H5 : Hp), G.prog = X.prog → G.w = X.w → Inv G [] σw H5 s5 →
      (∃ gs, s5.gens[gn]? = some gs ∧ gs.Goes (model G.prog G.w) X.A.in1.in1 (gR G σw fun H => Q (.bl (!d)) H) (gY G σw d fun H => Q (.bl d) H) n (.send .none) (s5.setGen gn .running)) →
      (∀ H s, Inv G [] σw H s → s.heap.IsGen a gn) → (∀ H s, Inv G [] σw H s → Inv X pins σ H s) → Q' (.ref a) s5) :
    wpAny (model X.prog X.w) X.A (eval (.GeneratorExp elt [⟨tg, iter, [], 0⟩] scope gpos) X.env) Q' X.xe s := by
  have hfree : ∀ y ∈ scope.names, y.2 = .free → ∃ c, X.env.cells.lookup y.1 = some c := fun y hy e => by
    rcases ok.free y hy e with k | k
    · exact I.ok.has _ (.inl k)
    · exact I.ok.has _ (.inr k)
  refine wpAny_GeneratorExp_make hco (closure_ok hfree) hcell h0 ok.kind hr.depth ?_ hs
  refine thn (hi.run pins s σ H _ I h) fun xv s1 hx => thn hx fun itv s2 h2 => ?_
  obtain ⟨it, fp, tn, J, H2, e, I2, T, st2, f2, q⟩ := h2
  subst e
  obtain ⟨⟨ps, hP, ht⟩, q⟩ := q
  refine ⟨I2.nolimit, ?_⟩
  have hPs : s2.heap.get? P = some { cls := .none, data := .fields ps } := I2.hok P _ hP
  have cd : PySem.W.CodeHd s2.heap c P := TB.code.keeps fun b u e => I2.bk b u e
  have sz : ∀ b ∈ fp, b < s2.heap.objs.size := fun b hb => by
    obtain ⟨o, e, _⟩ := T.obj _ _ st2 b hb
    exact Heap.lt_size e
  have fpP : ∀ b ∈ fp, b ≠ P := fun b hb z => by
    have := (f2 b hb).1
    rw [z, hP] at this; cases this
  have cont : ∀ (code : Value) (h3 : Heap) (tk : Nat) (ps' : Array Value), Heap.ExtBut P s2.heap h3 → s2.heap.objs.size ≤ h3.objs.size → h3.get? P = some { cls := .none, data := .fields ps' } → (∃ more, ps' = ps ++ more) → TriplesOk ps'.toList →
      wpAny (model X.prog X.w) X.A (builtinsFor X.env.globals X.env.builtins) (fun bi s₄ =>
        ∀ h', h'.Ns s₄.heap.objs.size (fun y => if y = ".0" then some (.ref it) else none) → Heap.SameBut s₄.heap.objs.size (s₄.heap.push { cls := .type "frame", data := .dict #[] }) h' →
          Q' (.ref h'.objs.size) { s₄ with
            gens := s₄.gens.push (.fresh (.compStart (.GeneratorExp elt [⟨tg, iter, [], 0⟩] scope gpos) 0 (.ref it) .none (genEnv scope (cloFrom X.env.cells scope.names []) s₄.heap.objs.size code bi X.env))),
            toks := s₄.toks + 1 + 1 + 1,
            heap := h'.push { cls := .type "generator", data := .fields #[.int s₄.gens.size 0, .str "<genexpr>" (s₄.toks + 1), .str (X.env.qual ++ "<genexpr>") (s₄.toks + 1 + 1)] } }) X.xe { s2 with heap := h3, toks := tk } := by
    intro code h3 tk ps' hx hsz hP3 hmore ht3
    obtain ⟨bm, ob, e1, e2, e3, e4, e5, e6, e7, e8⟩ := TB.bm
    have keep3 : ∀ b u, b ≠ P → s2.heap.get? b = some u → h3.get? b = some u := fun b u hb e => hx b u hb e
    refine wpAny_builtinsFor (m := X.mg) (by rw [I2.ok.glob]; exact (I2.mod.glob.keeps I2.bk).extBut hx TB.gP) e1 e2 (keep3 _ _ e4 (I2.bk _ _ e5)) e6 e7 e8 ?_
    obtain ⟨more, em⟩ := hmore
    have I4 : Inv X pins σ (upd H2 P (.tbl (ps ++ more))) { s2 with heap := h3, gens := s2.gens, drawn := s2.drawn, toks := tk } := GxR.inv_tab I2 hP keep3 (by rw [← em]; exact hP3) I2.bare
    have hTab : GxR.Tabbed P H2 (upd H2 P (.tbl (ps ++ more))) := ⟨⟨ps ++ more, upd_same, by rw [← em]; exact ht3⟩, fun b hb => upd_ne hb⟩
    obtain ⟨W, ⟨m, w0⟩, turn⟩ := q _ hTab
    generalize upd H2 P (.tbl (ps ++ more)) = H4 at I4 hTab w0
    have f4 : ∀ b ∈ fp, FpOk X pins H4 b ∧ b < h3.objs.size := fun b hb => by
      have hlt := sz b hb
      exact ⟨⟨by rw [hTab.2 b (fpP b hb)]; exact (f2 b hb).1, (f2 b hb).2⟩, Nat.lt_of_lt_of_le hlt hsz⟩
    have st4 : tn 0 h3 := T.keep _ _ _ st2 fun b hb o e => hx b o (fpP b hb) e
    intro h' hn' hs'
    have hsz' : h'.objs.size = h3.objs.size + 1 := by rw [hs'.1, Heap.size_push]
    have keep' : ∀ b o, h3.get? b = some o → h'.get? b = some o := fun b o e => hs'.extBut b o (Nat.ne_of_lt (Heap.lt_size e)) (Heap.get?_push_of_some _ e)
    generalize hgo : ({ cls := .type "generator", data := .fields #[.int s2.gens.size 0, .str "<genexpr>" (tk + 1), .str (X.env.qual ++ "<genexpr>") (tk + 1 + 1)] } : Obj) = go
    have hgp : ∀ h : Heap, (h.push go).get? h.objs.size = some go := fun h => by rw [← hgo]; exact Heap.get?_push_size _ rfl
    have hgd : ∀ v, go.data ≠ .cell v := fun v => by rw [← hgo]; intro z; cases z
    have hgen : ∀ h : Heap, h.get? h'.objs.size = some go → h.IsGen h'.objs.size s2.gens.size := fun h e => ⟨go, _, _, e, by rw [← hgo], by rw [← hgo], by rw [← hgo]⟩
    have J5 := gen_inv (B := X.A.in1.in1) (code := code) (go := go) (g' := s2.gens.push (.fresh (.compStart (.GeneratorExp elt [⟨tg, iter, [], 0⟩] scope gpos) 0 (.ref it) .none (genEnv scope (cloFrom X.env.cells scope.names []) h3.objs.size code builtinsNs X.env)))) (t' := tk + 1 + 1 + 1)
      I4 ok hN hcell f4 I4.ok.frames hr.hd hn' keep' hsz' (hgp h') hgd (AllBare.push I2.bare rfl)
    have nf : ∀ b ∈ fp, H4 b = none := fun b hb => (f4 b hb).1.1
    have hpn : ∀ p ∈ [(h'.objs.size, go)], ∀ b ∈ fp, p.1 ≠ b := fun p hp b hb z => by
      have e : p = (h'.objs.size, go) := by simpa using hp
      subst e
      have h1 : b < h3.objs.size := (f4 b hb).2
      have z : h'.objs.size = b := z
      rw [← z, hsz'] at h1
      exact absurd h1 (Nat.not_lt_of_ge (Nat.le_succ _))
    have st5 : tn 0 (h'.push go) := T.keep _ _ _ st4 fun b _ o e => Heap.get?_push_of_some _ (keep' b o e)
    refine hQ (gCx X X.A.in1.in1 _ H4 (genEnv scope (cloFrom X.env.cells scope.names []) h3.objs.size code builtinsNs X.env) fp [(h'.objs.size, go)]) (wipe σ (own.map (·.2))) _ _ m _ H4 rfl rfl J5 ⟨_, Array.getElem?_push_size .., rfl, ?_⟩ (fun H' s' I' => ?_) (fun H' s' I' => ?_)
    · exact gen_segS hco hpn T (hg _ _ _ _ _ _) (he _ _ _ _ _ _) turn m m _ _ H4 (Nat.le_refl _) w0 (inv_like J5 rfl rfl (allBare_setGen J5.bare rfl)) st5 nf
    · exact hgen _ (I'.pin (h'.objs.size, go) (List.mem_append_left _ (List.mem_singleton.mpr rfl))).1
    · exact I4.call' (ch := fp) I'.os I'.base I'.hok I'.bare fun b hb => ⟨(f4 b hb).1.2.2.2.1, (f4 b hb).1.2.1, (f4 b hb).1.2.2.2.2.1, (f4 b hb).1.2.2.2.2.2⟩
  cases hf : codeAmong gpos ps.toList with
  | none =>
    refine wpAny_genexprCodeX hcode (cd.code hPs ht) (cd.tab hPs) hf fun c' h' tk hx hge hlt hco' _ htab' _ => ?_
    obtain ⟨o1, vs, f1, tf, fl, tg, inF, tx, tt, op, _, _, _, _, _, _, _, _, _, htr, _⟩ := hco'
    exact cont _ h' tk _ hx (Nat.le_trans hge (Nat.le_of_lt hlt)) htab'.2 ⟨_, rfl⟩ htr
  | some cv =>
    refine wpAny_genexprCode_hit hcode (cd.code hPs ht) hf ?_
    exact cont cv s2.heap s2.toks ps (Heap.ExtBut.refl _ _) (Nat.le_refl _) hPs ⟨#[], by simp⟩ ht

theorem pe_any {k : Nat} {c P : Addr} {elt tg iter : Expr} {p pos gpos : Pos} {scope : Scope} {own : List (Str × Nat)} {wi : TI} {g : TG} {te : TE}
    (hr : Room k X.A) (hgl : Gl X "any") (hm : X.mg "any" = none) (TB : GxR.TabB X.base X.mg c P) (hcode : X.env.code = .ref c) (hN : X.N.Nodup) (ok : BlkOk X.N X.env.scope scope own) (hco : scope.isCoroutine = false) (hcell : ∀ y ∈ scope.names, y.2 ≠ .cell) (h0 : scope.names.lookup (".0" : Str) = some NameKind.local)
    (hi : PI X tg iter wi) (hs : ∀ v, genFold iter X.env v = pure v)
    (hg : ∀ (s : Shared) (H : Hp) (C : Addr) (code : Value) (fp : List Addr) (pn : List (Addr × Obj)), PG (gCx X X.A.in1.in1 s H (genEnv scope (cloFrom X.env.cells scope.names []) C code builtinsNs X.env) fp pn) tg g)
    (he : ∀ (s : Shared) (H : Hp) (C : Addr) (code : Value) (fp : List Addr) (pn : List (Addr × Obj)), PE (gCx X X.A.in1.in1 s H (genEnv scope (cloFrom X.env.cells scope.names []) C code builtinsNs X.env) fp pn) elt te)
    (hst : starEach [.GeneratorExp elt [⟨tg, iter, [], 0⟩] scope gpos] X.env = (false, eval (.GeneratorExp elt [⟨tg, iter, [], 0⟩] scope gpos) X.env) :: starEach [] X.env := by rfl) :
    PE X (.Call (.Name "any" p) [.GeneratorExp elt [⟨tg, iter, [], 0⟩] scope gpos] [] pos) (tAny true P wi g te (own.map (·.2))) := by
  refine ⟨fun pins s σ H Q I h => ?_⟩
  refine wpAny_Call_Name_kw (ld_blt I hgl hm PyProof.Rows.boot_any ?_)
  refine PyProof.Rows.callWith_builtin1 ?_ hst (by rfl)
  rw [hst]
  show wpAny _ _ (spliced ((false, eval (.GeneratorExp elt [⟨tg, iter, [], 0⟩] scope gpos) X.env) :: backTo pos (starEach [] X.env))) _ _ s
  refine Calls.spliced_cons (gen_make (d := true) (Q := Q) hr TB hcode hN ok hco hcell h0 hi hs hg he I h fun G σw a gn n s5 H5 ep ew I5 hgs hgen hback => ?_)
  refine Calls.spliced_nil ?_
  refine call_function_tree F.kind_any F.plain_any F.entry_any (F.args_any1 _) ?_
  unfold Builtin.«any»
  refine wpAny_bind (m := oneArg "any" _) (wpAny_pure ?_)
  refine wpAny_bind (wpAny_pyIter_gen (hgen _ _ I5) ?_)
  refine wpAny_pure ⟨plainId_quiet F.plain_any_loop _, ?_⟩
  rw [← ep, ← ew]
  refine gen_any (G := G) (σw := σw) (Qt := fun H => Q (.bl true) H) (Qf := fun H => Q (.bl (!true)) H) (A := X.A) hr.hd hr.depth hgen (fun H' s' I' q => ?_) (fun H' s' I' q => ?_) n s5 H5 I5 hgs
  · exact ⟨.bl _, H', hback _ _ I', rfl, q⟩
  · exact ⟨.bl _, H', hback _ _ I', rfl, q⟩

theorem pe_all {k : Nat} {c P : Addr} {elt tg iter : Expr} {p pos gpos : Pos} {scope : Scope} {own : List (Str × Nat)} {wi : TI} {g : TG} {te : TE}
    (hr : Room k X.A) (hgl : Gl X "all") (hm : X.mg "all" = none) (TB : GxR.TabB X.base X.mg c P) (hcode : X.env.code = .ref c) (hN : X.N.Nodup) (ok : BlkOk X.N X.env.scope scope own) (hco : scope.isCoroutine = false) (hcell : ∀ y ∈ scope.names, y.2 ≠ .cell) (h0 : scope.names.lookup (".0" : Str) = some NameKind.local)
    (hi : PI X tg iter wi) (hs : ∀ v, genFold iter X.env v = pure v)
    (hg : ∀ (s : Shared) (H : Hp) (C : Addr) (code : Value) (fp : List Addr) (pn : List (Addr × Obj)), PG (gCx X X.A.in1.in1 s H (genEnv scope (cloFrom X.env.cells scope.names []) C code builtinsNs X.env) fp pn) tg g)
    (he : ∀ (s : Shared) (H : Hp) (C : Addr) (code : Value) (fp : List Addr) (pn : List (Addr × Obj)), PE (gCx X X.A.in1.in1 s H (genEnv scope (cloFrom X.env.cells scope.names []) C code builtinsNs X.env) fp pn) elt te)
    (hst : starEach [.GeneratorExp elt [⟨tg, iter, [], 0⟩] scope gpos] X.env = (false, eval (.GeneratorExp elt [⟨tg, iter, [], 0⟩] scope gpos) X.env) :: starEach [] X.env := by rfl) :
    PE X (.Call (.Name "all" p) [.GeneratorExp elt [⟨tg, iter, [], 0⟩] scope gpos] [] pos) (tAny false P wi g te (own.map (·.2))) := by
  refine ⟨fun pins s σ H Q I h => ?_⟩
  refine wpAny_Call_Name_kw (ld_blt I hgl hm PyProof.Rows.boot_all ?_)
  refine PyProof.Rows.callWith_builtin1 ?_ hst (by rfl)
  rw [hst]
  show wpAny _ _ (spliced ((false, eval (.GeneratorExp elt [⟨tg, iter, [], 0⟩] scope gpos) X.env) :: backTo pos (starEach [] X.env))) _ _ s
  refine Calls.spliced_cons (gen_make (d := false) (Q := Q) hr TB hcode hN ok hco hcell h0 hi hs hg he I h fun G σw a gn n s5 H5 ep ew I5 hgs hgen hback => ?_)
  refine Calls.spliced_nil ?_
  refine call_function_tree F.kind_all F.plain_all F.entry_all (F.args_all1 _) ?_
  unfold Builtin.«all»
  refine wpAny_bind (m := oneArg "all" _) (wpAny_pure ?_)
  refine wpAny_bind (wpAny_pyIter_gen (hgen _ _ I5) ?_)
  refine wpAny_pure ⟨plainId_quiet F.plain_all_loop _, ?_⟩
  rw [← ep, ← ew]
  refine gen_all (G := G) (σw := σw) (Qt := fun H => Q (.bl false) H) (Qf := fun H => Q (.bl (!false)) H) (A := X.A) hr.hd hr.depth hgen (fun H' s' I' q => ?_) (fun H' s' I' q => ?_) n s5 H5 I5 hgs
  · exact ⟨.bl _, H', hback _ _ I', rfl, q⟩
  · exact ⟨.bl _, H', hback _ _ I', rfl, q⟩
end
end DL

/-! any, all: the mirror; defs with a code object that is known. -/
namespace DL
open PySem PySem.Spec L2
def anyG (d : Bool) (vs : List Nat) (t : Tg) (elt : M D) : List D → M Bool
  | [], s => .ok (!d) s
  | x :: r, s => match t x s with
    | none => .bad
    | some s1 => (elt s1).bind fun y s2 => match y with
      | .bool b => if b = d then .ok d (wipeS s2 vs) else anyG d vs t elt r (wipeS s2 vs)
      | _ => .bad
def mAny (d : Bool) (vs : List Nat) (fi : M (List D)) (t : Tg) (elt : M D) : M D := fun s => (fi s).bind fun ds s1 => if noOwn vs s1 = true then match anyG d vs t elt ds (wipeS s1 vs) with
    | .ok b s2 => .ok (.bool b) (putS s1 s2 vs)
    | _ => .bad
  else .bad
section
variable {c : Cf} {X : Cx} {W : WX} {a b : Expr} {f : M D} {ft : M Bool} {fs : M (List D)} {g : G} {pos : Pos}
/-- behind a generator expression -/
theorem Rel.ungen {O A : List Addr} {σ : St} {H1 H' : Hp} {s1 sf : Sts} {vs : List Nat} (r1 : Rel c O A σ H1 s1) (st : Stp A H1 H') (no : noOwn vs s1 = true) (r : Rel c O A (L2.wipe σ vs) H' sf) (hv : ∀ v ∈ vs, c.np ≤ v) :
    Rel c O A σ H' (putS s1 sf vs) := by
  have f : ∀ (j : Nat) (y : Sl), (putS s1 sf vs)[j]? = some y → (j ∈ vs ∧ s1[j]? = some y ∧ ∀ ds, y ≠ .own ds) ∨ (j ∉ vs ∧ sf[j]? = some y) := fun j y h => by
    by_cases hj : j ∈ vs
    · have hl : j < sf.length := by
        have := (List.getElem?_eq_some_iff.mp h).1
        rw [putS_len] at this
        exact this
      rw [putS_in hj hl] at h
      obtain ⟨x, e, n⟩ := noOwn_not no hj
      rw [e] at h
      have h := Option.some.inj h
      have h : x = y := h
      subst h
      exact .inl ⟨hj, e, n⟩
    · rw [putS_out hj] at h
      exact .inr ⟨hj, h⟩
  refine ⟨by rw [putS_len, ← r.len, wipe_length], r1.sub, r.alv, fun j y h => ?_, fun j k ds es l h1 h2 h3 h4 => ?_, r.kp, r1.fr, r1.z0, r1.o0, fun q hq => ?_, r.tb⟩
  · rcases f j y h with ⟨hj, h, n⟩ | ⟨hj, h⟩
    · have z := r1.slot j y h
      cases y with
      | un => trivial
      | own ds => exact absurd rfl (n ds)
      | dat d =>
        obtain ⟨v, e, q⟩ := z
        exact ⟨v, e, Sub.dp (st.fwd r1.sub) q⟩
    · have z := r.slot j y h
      rw [wipe_out hj] at z
      exact z
  · rcases f j _ h1 with ⟨_, _, n⟩ | ⟨hj, h1⟩
    · exact absurd rfl (n _)
    · rcases f k _ h2 with ⟨_, _, n⟩ | ⟨hk, h2⟩
      · exact absurd rfl (n _)
      · refine r.inj j k ds es l h1 h2 ?_ ?_
        · rw [wipe_out hj]; exact h3
        · rw [wipe_out hk]; exact h4
  · obtain ⟨h1, h2, ds, h3⟩ := r.pn q hq
    have hn : q.1 ∉ vs := fun z => by
      have := hv _ z
      omega
    refine ⟨h1, ?_, ds, ?_⟩
    · rw [wipe_out hn] at h2; exact h2
    · rw [putS_out hn]; exact h3
theorem grow_tab {P : Addr} {H H' : Hp} (h : GxR.TabG H P) (t : GxR.Tabbed P H H') : Grow c H H' := by
  obtain ⟨ps, e, _⟩ := h
  refine ⟨fun a o ea n => ?_, fun tb Q hQ => ?_⟩
  · have ne : a ≠ P := fun z => by
      rw [z, e] at ea
      cases ea
      exact n ps rfl
    rw [t.2 a ne]
    exact ea
  · by_cases z : Q = P
    · subst z
      exact t.1
    · obtain ⟨qs, e2, q2⟩ := tb Q hQ
      exact ⟨qs, by rw [t.2 Q z]; exact e2, q2⟩
theorem sem_any {P : Addr} {d : Bool} {wi : TI} {vs : List Nat} {t : Tg} {elt : M D} (hP : P ∈ c.T) (hv : ∀ v ∈ vs, c.np ≤ v) (si : SemI c W wi fs) : SemE c W (tAny d P wi (tgB c vs t) (teB c Wno elt) vs) (mAny d vs fs t elt) := by
  intro O A σ H s r Q w
  refine si O A σ H s r _ (Wp.mono (Wp.bind w) ?_)
  intro ds s1 H0 _ f0 r0 w0 J wk
  refine ⟨r0.tb P hP, fun H1 tab => ?_⟩
  have gr0 : Grow c H0 H1 := grow_tab (r0.tb P hP) tab
  have r1 := r0.grow gr0
  have w1 := Wp.fwd (gr0.stp A) w0
  by_cases no : noOwn vs s1 = true
  · rw [if_pos no] at w1
    cases hr : anyG d vs t elt ds (wipeS s1 vs) with
    | err x s2 => rw [hr] at w1; exact w1.elim
    | bad => rw [hr] at w1; exact w1.elim
    | ok bv sf =>
      rw [hr] at w1
      have w1 : Wp c W O A σ H1 (.ok (.bool bv) (putS s1 sf vs)) (PV c O Q) := w1
      refine ⟨fun i m H' => m = ds.length - i ∧ i ≤ ds.length ∧ ∃ s' : Sts, Stp A H1 H' ∧ Rel c O A (wipe σ vs) H' s' ∧ anyG d vs t elt (ds.drop i) s' = .ok bv sf,
        ⟨ds.length, by simp, Nat.zero_le _, wipeS s1 vs, Stp.refl _ _, r1.wipe hv, by rw [List.drop_zero]; exact hr⟩, ?_⟩
      rintro i m H' ⟨rfl, hi, s', st, r', hl⟩
      have fw : Fwd O H0 O H' := (gr0.fwd O).trans (st.fwd r1.sub)
      by_cases hlt : i < ds.length
      · refine .inr ?_
        obtain ⟨hgo, hy⟩ := wk.go i O H' hlt fw
        refine ⟨hgo, fun H2 => i + 1 ≤ ds.length ∧ ∃ s' : Sts, Stp A H1 H2 ∧ Rel c O A (wipe σ vs) H2 s' ∧ anyG d vs t elt (ds.drop (i + 1)) s' = .ok bv sf, fun H2 h => ⟨ds.length - (i + 1), by omega, rfl, h⟩, fun x H2 y => ?_⟩
        obtain ⟨gr, dx, hd, qd⟩ := hy x H2 y
        have e : ds.drop i = dx :: ds.drop (i + 1) := by
          obtain ⟨h1, h2⟩ := List.getElem?_eq_some_iff.mp hd
          rw [← h2]
          exact List.drop_eq_getElem_cons hlt
        rw [e] at hl
        unfold anyG at hl
        cases z : t dx s' with
        | none => rw [z] at hl; cases hl
        | some s2 =>
          rw [z] at hl
          have hl : (elt s2).bind (fun y s2 => match y with
            | .bool b => if b = d then .ok d (wipeS s2 vs) else anyG d vs t elt (ds.drop (i + 1)) (wipeS s2 vs)
            | _ => .bad) = .ok bv sf := hl
          refine ⟨O, A, s', dx, s2, r'.grow gr, qd, z, fun σ2 b2 r2 => ⟨wipe_but b2, ?_⟩⟩
          have wb : wipe σ2 vs = wipe σ vs := wipe_but b2
          refine ⟨O, A, s2, r2, ?_⟩
          cases ze : elt s2 with
          | err _ _ => rw [ze] at hl; cases hl
          | bad => rw [ze] at hl; cases hl
          | ok yd s3 =>
            rw [ze] at hl
            intro H3 st3 r3 v qv
            have st13 : Stp A H1 H3 := (st.trans (gr.stp A)).trans st3
            cases yd with
            | bool b =>
              have ev := dp_bool qv
              have hl : (if b = d then Rs.ok d (wipeS s3 vs) else anyG d vs t elt (ds.drop (i + 1)) (wipeS s3 vs)) = .ok bv sf := hl
              refine ⟨b, ev, ?_⟩
              have r4 := r3.wipe hv
              rw [wb] at r4
              by_cases hb : b = d
              · rw [if_pos hb] at hl ⊢
                cases hl
                exact w1 H3 st13 (r1.ungen st13 no r4 hv) _ (.bl _)
              · rw [if_neg hb] at hl ⊢
                exact ⟨hlt, wipeS s3 vs, st13, r4, hl⟩
            | none => cases hl
            | int _ => cases hl
            | str _ => cases hl
            | list _ => cases hl
            | tuple _ => cases hl
            | dict _ => cases hl
      · have e : i = ds.length := by omega
        subst e
        rw [List.drop_length] at hl
        have hl : Rs.ok (!d) s' = .ok bv sf := hl
        cases hl
        exact .inl ⟨wk.stop _ O H' (Nat.le_refl _) fw, w1 H' st (r1.ungen st no r' hv) _ (.bl _)⟩
  · rw [if_neg no] at w1
    exact w1.elim
abbrev GenE (c : Cf) (X : Cx) (k : Nat) (scope : Scope) (elt : Expr) (f : M D) : Prop := ∀ (s : Shared) (H : Hp) (C : Addr) (code : Value) (fp : List Addr) (pn : List (Addr × Obj)), Room k (gCx X X.A.in1.in1 s H (genEnv scope (cloFrom X.env.cells scope.names []) C code builtinsNs X.env) fp pn).A →
  DE c (gCx X X.A.in1.in1 s H (genEnv scope (cloFrom X.env.cells scope.names []) C code builtinsNs X.env) fp pn) Wno elt f
abbrev GenG (c : Cf) (X : Cx) (scope : Scope) (tg : Expr) (vs : List Nat) (t : Tg) : Prop := ∀ (s : Shared) (H : Hp) (C : Addr) (code : Value) (fp : List Addr) (pn : List (Addr × Obj)), DG c (gCx X X.A.in1.in1 s H (genEnv scope (cloFrom X.env.cells scope.names []) C code builtinsNs X.env) fp pn) tg vs t
theorem room_gen {k : Nat} {A : Around} (h : Room (k + 1) A) (env : Env) : Room k (A.in1.in1.deeper env) := by
  obtain ⟨h1, h2, h3⟩ := h
  refine ⟨h1, ?_, ?_⟩
  · show A.depth + 1 + 3 * k + 5 < _
    omega
  · show A.units + 1 + 1 + 3 + 16 * k + 200 < _
    omega
theorem takes_no {X : Cx} : Takes X Wno := takes0
theorem d_any {k : Nat} {cc P : Addr} {elt tg iter : Expr} {p gpos : Pos} {scope : Scope} {own : List (Str × Nat)} {t : Tg} {fe : M D} (hr : Room (k + 1) X.A) (hP : P ∈ c.T) (TB : GxR.TabB X.base X.mg cc P) (hcode : X.env.code = .ref cc) (hm : X.mg "any" = none) (hN : X.N.Nodup) (ok : BlkOk X.N X.env.scope scope own)
    (hi : DI c X W tg iter fs) (hg : GenG c X scope tg (own.map (·.2)) t) (he : GenE c X k scope elt fe) (hgl : Gl X "any" := by rfl) (hco : scope.isCoroutine = false := by rfl) (hcell : ∀ y ∈ scope.names, y.2 ≠ .cell := by decide +kernel) (h0 : scope.names.lookup (".0" : Str) = some NameKind.local := by rfl) (hs : ∀ v, genFold iter X.env v = pure v := by intro _; rfl)
    (hv : ∀ v ∈ own.map (·.2), c.np ≤ v := by exact of_decide_eq_true rfl) (hst : starEach [.GeneratorExp elt [⟨tg, iter, [], 0⟩] scope gpos] X.env = (false, eval (.GeneratorExp elt [⟨tg, iter, [], 0⟩] scope gpos) X.env) :: starEach [] X.env := by rfl) :
    DE c X W (.Call (.Name "any" p) [.GeneratorExp elt [⟨tg, iter, [], 0⟩] scope gpos] [] pos) (mAny true (own.map (·.2)) fs t fe) := by
  obtain ⟨wi, pi, si⟩ := hi
  exact ⟨_, pe_any hr hgl hm TB hcode hN ok hco hcell h0 pi hs (fun s H C code fp pn => dg_best (hg s H C code fp pn)) (fun s H C code fp pn => de_best (he s H C code fp pn (room_gen hr _))) hst, sem_any hP hv si⟩
theorem d_all {k : Nat} {cc P : Addr} {elt tg iter : Expr} {p gpos : Pos} {scope : Scope} {own : List (Str × Nat)} {t : Tg} {fe : M D} (hr : Room (k + 1) X.A) (hP : P ∈ c.T) (TB : GxR.TabB X.base X.mg cc P) (hcode : X.env.code = .ref cc) (hm : X.mg "all" = none) (hN : X.N.Nodup) (ok : BlkOk X.N X.env.scope scope own)
    (hi : DI c X W tg iter fs) (hg : GenG c X scope tg (own.map (·.2)) t) (he : GenE c X k scope elt fe) (hgl : Gl X "all" := by rfl) (hco : scope.isCoroutine = false := by rfl) (hcell : ∀ y ∈ scope.names, y.2 ≠ .cell := by decide +kernel) (h0 : scope.names.lookup (".0" : Str) = some NameKind.local := by rfl) (hs : ∀ v, genFold iter X.env v = pure v := by intro _; rfl)
    (hv : ∀ v ∈ own.map (·.2), c.np ≤ v := by exact of_decide_eq_true rfl) (hst : starEach [.GeneratorExp elt [⟨tg, iter, [], 0⟩] scope gpos] X.env = (false, eval (.GeneratorExp elt [⟨tg, iter, [], 0⟩] scope gpos) X.env) :: starEach [] X.env := by rfl) :
    DE c X W (.Call (.Name "all" p) [.GeneratorExp elt [⟨tg, iter, [], 0⟩] scope gpos] [] pos) (mAny false (own.map (·.2)) fs t fe) := by
  obtain ⟨wi, pi, si⟩ := hi
  exact ⟨_, pe_all hr hgl hm TB hcode hN ok hco hcell h0 pi hs (fun s H C code fp pn => dg_best (hg s H C code fp pn)) (fun s H C code fp pn => de_best (he s H C code fp pn (room_gen hr _))) hst, sem_any hP hv si⟩
end
end DL

/-! except .. as; defs with a code object that is known; the end. -/
namespace DL
open PySem PySem.Spec L2
section
variable {c : Cf} {X : Cx} {W : WX} {a b : Expr} {f : M D} {fs fp fq : M (List D)} {g : G} {pos : Pos}
def sTryIs (i : Nat) (exm kb : Str → Option Bool) (gb : G) : G := fun s => match gb s with
  | .err y s' => (match exm y with
    | some true => (match kb y with
      | some b => if i < s'.length then .ret (.bool b) s' else .bad
      | none => .bad)
    | some false => .err y s'
    | none => .bad)
  | r => r
theorem s_tryIs (i : Nat) {x n : Str} {body : List Stmt} {np pos' rpos : Pos} {e : Expr} {gb : G} {exm kb : Str → Option Bool} (hN : X.N.Nodup) (hc : Names X x (.ref (c.ca x))) (hx : ∀ y b, exm y = some b → PySem.W.exmOne X.K (.ref (c.ca y)) (.ref (c.ca x)) = some b) (tk : Takes X W)
    (hb : ∀ (W' : WX) (pn : List (Addr × Obj)) (xe : Value → Shared → Prop), Takes (X.tr pn xe) W' → PassesOwn (model X.prog X.w) X.A X.env xe → DSs c (X.tr pn xe) W' body gb)
    (he : ∀ y b, kb y = some b → ∀ (a : Addr) (oe : Obj) (pn : List (Addr × Obj)), Zc (.ref (c.ca y)) none oe → (∃ vs, oe.data = .fields vs) → ∃ te : TE, PE (X.suite a ((a, oe) :: pn)) e te ∧ ∀ σ H Q, σ[i]? = some (some (.ref a)) → Q (.bl b) H → te σ H Q)
    (hi : X.N[i]? = some n := by rfl) (hln : X.env.kindOf n = some .local := by rfl) (hs : X.stack = X.env :: X.outer := by rfl) (hf : X.env.frame = some X.env.locals := by rfl) :
    DS c X W (.Try body [.ExceptHandler (some (.Name x np)) (some n) [.Return (some e) rpos] pos'] [] [] pos) (sTryIs i exm kb gb) := by
  refine ⟨_, ps_try_as (i := i) (tb := fun W' => tuB c W' gb) (ts := fun a cls d => fun E σ H => ∃ y b, cls = .ref (c.ca y) ∧ d = none ∧ kb y = some b ∧ σ[i]? = some (some (.ref a)) ∧ E.rt (.bl b) H) hs hf hN hi hln hc tk (fun W' pn xe t p => ds_best (hb W' pn xe t p)) (fun a oe cls d pn hz hfl => ?_), ?_⟩
  · refine ⟨fun pins s σ H E I h => ?_⟩
    obtain ⟨y, b, rfl, rfl, hk, hσ, q⟩ := h
    obtain ⟨te, pe, se⟩ := he y b hk a oe pn hz hfl
    exact (pss_one (ps_ret pe)).run pins s σ H E I (se σ H E.rt hσ q)
  intro O A σ H s r E w
  refine ⟨O, A, s, r, ?_⟩
  unfold sTryIs at w
  cases z : gb s with
  | nx s' => rw [z] at w; exact w
  | ret d s' => rw [z] at w; exact w
  | brk s' => rw [z] at w; exact w
  | ct s' => rw [z] at w; exact w
  | bad => rw [z] at w; exact w
  | err y s' =>
    rw [z] at w
    have w : WpS c W O H (match exm y with | some true => (match kb y with | some b => if i < s'.length then .ret (.bool b) s' else .bad | none => .bad) | some false => .err y s' | none => .bad) E := w
    intro O' A' σ' H' fw r'
    cases e : exm y with
    | none => rw [e] at w; exact w.elim
    | some bv =>
      rw [e] at w
      refine ⟨bv, hx y bv e, fun hb2 a ha => ?_, fun hb2 => ?_⟩
      · subst hb2
        cases ek : kb y with
        | none =>
          have w : WpS c W O H (match kb y with | some b => if i < s'.length then .ret (.bool b) s' else .bad | none => .bad) E := w
          rw [ek] at w; exact w.elim
        | some b =>
          have w : WpS c W O H (match kb y with | some b => if i < s'.length then .ret (.bool b) s' else .bad | none => .bad) E := w
          rw [ek] at w
          have w : WpS c W O H (if i < s'.length then .ret (.bool b) s' else .bad) E := w
          by_cases hl : i < s'.length
          rotate_left
          · rw [if_neg hl] at w; exact w.elim
          rw [if_pos hl, ] at w
          rw [← r'.len] at hl
          exact ⟨y, b, rfl, rfl, ek, by rw [List.getElem?_set_self hl], w O' A' σ' H' _ fw r' (.bl b)⟩
      · subst hb2
        exact w O' A' σ' H' fw r'
end

section
variable {P : Program} {w : World} {K : PySem.W.Frag} {mg : Str → Option Value} {base : Heap}
/-- a def whose code object stands at c -/
structure FunC (K : PySem.W.Frag) (x qual : Str) (st : Stmt) (f : Addr) (fd : FuncData) (c : Addr) : Prop where
  ex : ∃ (oc : Value) (od : Option Addr) (kV doc pm : Value) (an : Option Addr) (ct : Value) (osl : Array (Option Value)),
    fd = PySem.W.fnOf x qual (defArgs st) (defBody st) (defScope st) .none kV doc pm an (.ref c) ct ∧ K.lookup f = some ⟨oc, od, .func fd, osl⟩ ∧ PySem.W.codeIn K (.ref c) qual = true
theorem funC_mk {x qual : Str} {st : Stmt} {f cc PT : Addr} {oc : Value} {od an : Option Addr} {osl : Array (Option Value)} {kV doc pm cdv ct : Value} (h1 : PySem.W.nsIn K mainGlobals x = some (some (.ref f))) (l : K.lookup f = some ⟨oc, od, .func (PySem.W.fnOf x qual (defArgs st) (defBody st) (defScope st) .none kV doc pm an cdv ct), osl⟩)
    (c : PySem.W.codeIn K cdv qual = true) (ht : PySem.W.tabIn K x = some (cc, PT)) : FunC K x qual st f (PySem.W.fnOf x qual (defArgs st) (defBody st) (defScope st) .none kV doc pm an cdv ct) cc := by
  have e : cdv = .ref cc := by
    unfold PySem.W.tabIn at ht
    rw [h1] at ht
    have ht : (match K.lookup f with
      | some ⟨_, _, .func fd, _⟩ => (match fd.code with
        | .ref c => (match K.lookup c with
          | some ⟨_, _, .fields vs, _⟩ => (match (vs[11]? : Option Value) with
            | some (.ref P) => some (c, P)
            | _ => none)
          | _ => none)
        | _ => none)
      | _ => none) = some (cc, PT) := ht
    rw [l] at ht
    have ht : (match (generalizing := false) cdv with
        | .ref c => (match K.lookup c with
          | some ⟨_, _, .fields vs, _⟩ => (match (vs[11]? : Option Value) with
            | some (.ref P) => some (c, P)
            | _ => none)
          | _ => none)
        | _ => none) = some (cc, PT) := ht
    cases cdv with
    | ref c0 =>
      have ht : (match K.lookup c0 with
          | some ⟨_, _, .fields vs, _⟩ => (match (vs[11]? : Option Value) with
            | some (.ref P) => some (c0, P)
            | _ => none)
          | _ => none) = some (cc, PT) := ht
      split at ht
      · split at ht
        · cases ht; rfl
        · cases ht
      · cases ht
    | _ => cases ht
  subst e
  exact ⟨oc, od, kV, doc, pm, an, ct, osl, rfl, l, c⟩
theorem FunC.okX {x qual : Str} {st : Stmt} {f cc : Addr} {fd : FuncData} {N ps : List Str} {k : Nat} {sp : Sp} (F : FunC K x qual st f fd cc) (S : FnScope N ps (defScope st)) (len : ∀ vs H Q E, sp vs H Q E → vs.length = ps.length)
    (hbody : ∀ (A : Around) (outer : List Env) (s : Shared) (H : Hp) (vs : List V) (Q : VK) (E : XK), Room k (A.deeper (PyProof.Rows.envOfC qual (defScope st) s.heap.objs.size f (.ref cc))) → sp vs H Q E →
      ∃ t, PSs (cxOf (L2.CX P w) P w K mg base N qual (defScope st) f (.ref cc) A outer s H E) (defBody st) t ∧ t { nx := fun _ H' => Q .non H', rt := Q } (start N vs) H) : FnOk P w K mg base (L2.CX P w) (k + 1) f fd ps sp := by
  obtain ⟨oc, od, kV, doc, pm, an, ct, osl, rfl, lk, hcd⟩ := F.ex
  exact fn_of lk hcd S len fun A outer s H vs Q E hr hsp => hbody A outer s H vs Q E hr hsp
/-- a def keeps the promise of its mirror -/
theorem fn_okC {x qual : Str} {st : Stmt} {f : Addr} {fd : FuncData} {N ps : List Str} {k : Nat} {T : List Addr} {ca : Str → Addr} {g : G} {np n : Nat} {cc : Addr} (F : FunC K x qual st f fd cc) (S : FnScope N ps (defScope st)) (hnp : ps.length = np) (hn : N.length = n) (hle : np ≤ n)
    (hb : ∀ (pin : List (Nat × Addr)) (O0 : List Addr) (H0 : Hp) (A : Around) (outer : List Env) (s : Shared) (H : Hp) (E : XK), Room k (A.deeper (PyProof.Rows.envOfC qual (defScope st) s.heap.objs.size f (.ref cc))) →
      DSs ⟨K, T, ca, np, pin, O0, H0⟩ (cxOf (L2.CX P w) P w K mg base N qual (defScope st) f (.ref cc) A outer s H E) (Wfn E) (defBody st) g) : FnOk P w K mg base (L2.CX P w) (k + 1) f fd ps (spF K T ca np (run n g)) := by
  refine F.okX S (fun vs H Q E h => ?_) (fun A outer s H vs Q E hr h => ?_)
  · obtain ⟨O, A, ss, b, _⟩ := h
    rw [b.lv, hnp]
  · obtain ⟨O, A', ss, b, h⟩ := h
    obtain ⟨tu, pu, su⟩ := hb (pinOf 0 vs ss) O H A outer s H E hr
    refine ⟨tu, pu, ?_⟩
    have rel := start_rel (ca := ca) (N := N) b (by omega)
    refine su O _ (L2.start N vs) H _ rel _ ?_
    have after : ∀ O' A'' σ' H' s', Rel ⟨K, T, ca, np, pinOf 0 vs ss, O, H⟩ O' A'' σ' H' s' → AfterC K T O A' H H' vs (outs ss s') := fun O' A'' σ' H' s' r => after_of rfl rfl rfl b r
    have down : ∀ O' A'' σ' H' s' v d, Rel ⟨K, T, ca, np, pinOf 0 vs ss, O, H⟩ O' A'' σ' H' s' → Dp K (cut O' H') v d → Dp K (cut O H') v d := fun O' A'' σ' H' s' v d r q => by
      refine Sub.dp (fun a o e n => ?_) q
      obtain ⟨k1, k2⟩ := cut_some e
      rw [cut_out (fun z => k1 (r.o0 a z))]
      exact k2
    unfold run at h
    rw [hn]
    cases z : g (ss ++ List.replicate (n - ss.length) .un) with
    | nx s' =>
      rw [z] at h
      intro O' A'' σ' H' _ r
      exact h _ _ (after _ _ _ _ _ r) .non
    | ret d s' =>
      rw [z] at h
      intro O' A'' σ' H' v _ r q
      exact h _ _ (after _ _ _ _ _ r) (down _ _ _ _ _ _ _ r q)
    | err y s' =>
      rw [z] at h
      intro O' A'' σ' H' _ r
      exact h _ (after _ _ _ _ _ r)
    | brk s' => rw [z] at h; exact h.elim
    | ct s' => rw [z] at h; exact h.elim
    | bad => rw [z] at h; exact h.elim
end
/-! ### the end -/
theorem law_sp {K : PySem.W.Frag} {cs : List (Addr × Addr)} {ca : Str → Addr} {F : FnM} {H : Hp} {a : Addr} {ns : List Int} (hH : ∀ p ∈ cs, H p.2 = some (.tbl #[])) (hS : SqL K H a (ns.map V.int)) (h : ∃ ss', F [.dat (.list (ns.map .int))] = .ok (.bool true) ss') :
    spF K (cs.map (·.2)) ca 1 F [.ref a] H (fun v _ => v = .bl true) fun _ _ _ => False := by
  obtain ⟨ss', e⟩ := h
  have ce : cut [] H = H := by
    funext x
    exact cut_out (by simp)
  have ints0 : ∀ ns : List Int, DpAll K H (ns.map V.int) (ns.map PyData.int) := fun ns => by
    induction ns with
    | nil => exact .nil
    | cons i r ih => exact .cons (.int i) ih
  refine ⟨[], [], [.dat (.list (ns.map .int))], ⟨rfl, rfl, fun a h => h, fun a h => by simp at h, fun i x hx => ?_, fun i j ds es l h1 _ _ _ => ?_, fun P hP => ?_⟩, ?_⟩
  · match i, hx with
    | 0, hx =>
      cases hx
      exact ⟨.ref a, rfl, by rw [ce]; exact .lst hS (ints0 ns)⟩
    | i + 1, hx => simp at hx
  · match i, h1 with
    | 0, h1 => cases h1
    | i + 1, h1 => simp at h1
  · obtain ⟨p, hp, rfl⟩ := List.mem_map.mp hP
    exact ⟨#[], hH p hp, trivial⟩
  · rw [e]
    intro v H' _ q
    exact dp_bool q
theorem tab_any {p : Program} {loose : List Str} {mean : ExcName → Option Value} {mg mb : Str → Option Value} {h : Heap} {K : PySem.W.Frag} {x : Str} {c P : Addr} (T : PyProof.Rows.Top p loose mean mg mb h) (X : K.In h) (hr : ((PyProof.Rows.recsOf p).any fun e => e.name == x) = true) (ht : PySem.W.tabIn K x = some (c, P)) :
    PySem.W.CodeHd h c P ∧ h.get? P = some { cls := .none, data := .fields #[] } := by
  have : ∃ d, (PyProof.Rows.recsOf p).find? (fun e => e.name == x) = some d := by
    cases e : (PyProof.Rows.recsOf p).find? (fun e => e.name == x) with
    | some d => exact ⟨d, rfl⟩
    | none =>
      have := List.find?_eq_none.mp e
      obtain ⟨d, hd, q⟩ := List.any_eq_true.mp hr
      exact absurd q (this d hd)
  obtain ⟨d, hd⟩ := this
  exact PySem.W.tab_of T X hd ht
theorem walk_top {l : PySem.W.OpenLaw} {n k : Nat} {q : Program} {loose : List Str} {XP : (Str → Option Value) → Heap → Prop} {YP : World → Heap → Prop} {d : DefRec} {K : Params → PySem.W.Frag} {x : Str}
    (hn : l.most = some n) (hn2 : n ≤ sizeLine) (hdf : d.params.defaults = []) (hr : Room k callerA) (hY : ∀ (w : World) (h : Heap), YP w h → (K w.params).In h)
    (F : ∀ (w : World) (mg mb : Str → Option Value) (fa : Addr) (h : Heap) (ls : List Str) (mean : ExcName → Option Value), PyProof.Rows.Top q ls mean mg mb h → (K w.params).In h → mg d.name = some (.ref fa) → LamX.LawAtS l w (K w.params) (L2.CX l.prog w) k n x mg fa h) :
    PySem.W.WalkO q loose XP YP l.row.toRowW d [] (fun f vs => PySem.call f vs) := by
  refine Att.attach_callB hn hdf fun w s₀ s₁ mg mb fa o pm cd doc a vs ns G Y ho hd hcd hmg hobj hints hlen hbits hg => ?_
  have KX := hY w _ Y
  obtain ⟨fd, cs, sp, hT, nT, C, hb, hsp, hF⟩ := F w mg mb fa _ _ _ G.T KX hmg
  refine LamX.law_callTs KX G.T.g G.T.b G.T.builtins G.T.nolimit hg hT nT C G.T.bmain hobj hints (Nat.le_trans hlen hn2) hr hF hb (fun H hH hS => hsp H a ns hlen hbits hH hS) fun H e s' hx => ?_
  obtain ⟨_, _, _, _, _, _, _, _, _, _, _, _, hW⟩ := hx
  exact hW
theorem tb_of {base : Heap} {mg : Str → Option Value} {c P : Addr} (h : LamX.TabB base mg c P) : GxR.TabB base mg c P := ⟨h.code, h.bm, h.gP⟩
end DL

/-! defs that hand back a new list; short words. -/
namespace DL
open PySem PySem.Spec L2
def WpL (c : Cf) (O : List Addr) (H : Hp) (r : Rs (List D)) (E : Ends) : Prop := match r with
  | .ok ds s' => ∀ O' A' σ' H' p vs, Fwd O H O' H' → Rel c O' A' σ' H' s' → H' p = none → DpAll c.K (cut O' H') vs ds → E.rt (.ref p) (upd H' p (.lst vs))
  | _ => False
def SemL (c : Cf) (tu : TS) (g : M (List D)) : Prop := ∀ O A σ H s, Rel c O A σ H s → ∀ E : Ends, WpL c O H (g s) E → tu E σ H
def DSL (c : Cf) (X : Cx) (sts : List Stmt) (g : M (List D)) : Prop := ∃ tu, PSs X sts tu ∧ SemL c tu g
def lSeq (g : G) (h : M (List D)) : M (List D) := fun s => match g s with
  | .nx s' => h s'
  | _ => .bad
section
variable {c : Cf} {X : Cx} {W : WX} {a b : Expr} {f : M D} {fs : M (List D)} {g : G} {pos : Pos}
theorem l_ret (he : DF c X W a fs) : DSL c X [.Return (some a) pos] fs := by
  obtain ⟨te, pe, se⟩ := he
  refine ⟨_, pss_one (ps_ret pe), ?_⟩
  intro O A σ H s r E w
  refine se O A σ H s r _ ?_
  cases z : fs s with
  | err _ _ => rw [z] at w; exact w.elim
  | bad => rw [z] at w; exact w.elim
  | ok ds s' =>
    rw [z] at w
    intro H' st r' p vs hp q
    exact w O A σ H' p vs (st.fwd r.sub) r' hp q
theorem l_cons {st : Stmt} {rest : List Stmt} {h : M (List D)} (h1 : DS c X W st g) (h2 : DSL c X rest h) : DSL c X (st :: rest) (lSeq g h) := by
  obtain ⟨t, p, s⟩ := h1
  obtain ⟨u, q, s'⟩ := h2
  refine ⟨_, pss_cons p q, ?_⟩
  intro O A σ H st r E w
  refine s O A σ H st r _ ?_
  unfold lSeq at w
  cases z : g st with
  | nx st' =>
    rw [z] at w
    intro O' A' σ' H' fw r'
    refine s' O' A' σ' H' st' r' E ?_
    have w : WpL c O H (h st') E := w
    cases y : h st' with
    | err _ _ => rw [y] at w; exact w.elim
    | bad => rw [y] at w; exact w.elim
    | ok ds s2 =>
      rw [y] at w
      intro O2 A2 σ2 H2 p vs f2
      exact w O2 A2 σ2 H2 p vs (fw.trans f2)
  | brk _ => rw [z] at w; exact w.elim
  | ct _ => rw [z] at w; exact w.elim
  | ret _ _ => rw [z] at w; exact w.elim
  | err _ _ => rw [z] at w; exact w.elim
  | bad => rw [z] at w; exact w.elim
abbrev FnL := Sts → Rs (List D)
def runL (n : Nat) (g : M (List D)) : FnL := fun ss => match g (ss ++ List.replicate (n - ss.length) .un) with
  | .ok ds s => .ok ds (outs ss s)
  | _ => .bad
def spL (K : PySem.W.Frag) (T : List Addr) (np : Nat) (F : FnL) : Sp := fun vs H Q E => ∃ O A ss, Before K T np O A H vs ss ∧ match F ss with
  | .ok ds ss' => ∀ p us H', AfterC K T O A H H' vs ss' → H' p = none → DpAll K (cut O H') us ds → Q (.ref p) (upd H' p (.lst us))
  | _ => False
theorem fn_okL {P : Program} {w : World} {K : PySem.W.Frag} {mg : Str → Option Value} {base : Heap} {x qual : Str} {st : Stmt} {f : Addr} {fd : FuncData} {N ps : List Str} {k : Nat} {T : List Addr} {ca : Str → Addr} {g : M (List D)} {np n : Nat} (F : Fun K x qual st f fd) (S : FnScope N ps (defScope st)) (hnp : ps.length = np) (hn : N.length = n) (hle : np ≤ n)
    (hb : ∀ (pin : List (Nat × Addr)) (O0 : List Addr) (H0 : Hp) (cdv : Value) (A : Around) (outer : List Env) (s : Shared) (H : Hp) (E : XK), Room k (A.deeper (PyProof.Rows.envOfC qual (defScope st) s.heap.objs.size f cdv)) →
      DSL ⟨K, T, ca, np, pin, O0, H0⟩ (cxOf (L2.CX P w) P w K mg base N qual (defScope st) f cdv A outer s H E) (defBody st) g) : FnOk P w K mg base (L2.CX P w) (k + 1) f fd ps (spL K T np (runL n g)) := by
  refine F.okX S (fun vs H Q E h => ?_) (fun cdv A outer s H vs Q E hr h => ?_)
  · obtain ⟨O, A, ss, b, _⟩ := h
    rw [b.lv, hnp]
  · obtain ⟨O, A', ss, b, h⟩ := h
    obtain ⟨tu, pu, su⟩ := hb (pinOf 0 vs ss) O H cdv A outer s H E hr
    refine ⟨tu, pu, ?_⟩
    have rel := start_rel (ca := ca) (N := N) b (by omega)
    refine su O _ (L2.start N vs) H _ rel _ ?_
    unfold runL at h
    rw [hn]
    cases z : g (ss ++ List.replicate (n - ss.length) .un) with
    | err _ _ => rw [z] at h; exact h.elim
    | bad => rw [z] at h; exact h.elim
    | ok ds s' =>
      rw [z] at h
      intro O' A'' σ' H' p us _ r hp q
      refine h p us H' (after_of (c := ⟨K, T, ca, np, pinOf 0 vs ss, O, H⟩) rfl rfl rfl b r) hp (Sub.dpa (fun a o e n => ?_) q)
      obtain ⟨k1, k2⟩ := cut_some e
      rw [cut_out (fun z => k1 (r.o0 a z))]
      exact k2
def mCallL (np : Nat) (F : FnL) (fa : M (List D)) : M (List D) := fun s => (fa s).bind fun ds s1 => if ds.length = np then match F (ds.map .dat) with
    | .ok es _ => .ok es s1
    | _ => .bad
  else .bad
theorem sem_callL {np : Nat} {F : FnL} {ta : TA} (sa : SemA c W ta fs) : SemF c W (tCallS (spL c.K c.T np F) (WE W) ta) (mCallL np F fs) := by
  intro O A σ H s r Q w
  refine sa O A σ H s r _ (Wp.mono (Wp.bind w) ?_)
  intro ds s1 H1 _ f1 r1 w1 vs q
  by_cases hl : ds.length = np
  · rw [if_pos hl] at w1
    refine ⟨O, [], ds.map .dat, ⟨by rw [dpa_len q]; exact hl, by rw [List.length_map]; exact hl, fun a h => by simp at h, r1.alv, dat_slot q, fun i j d1 d2 l h _ _ _ => (dat_own h).elim, r1.tb⟩, ?_⟩
    cases z : F (ds.map .dat) with
    | ok es ss' =>
      have w1 : Wp c W O A σ H1 (match F (ds.map .dat) with | .ok es _ => .ok es s1 | _ => .bad) (fun ds _ H' => ∀ p vs, H' p = none → DpAll c.K (cut O H') vs ds → Q (.ref p) (upd H' p (.lst vs))) := w1
      rw [z] at w1
      intro p us H' h hp q'
      have gr : Grow c H1 H' := ⟨fun a o e n => h.keep a o e n (by simp), fun _ => h.tb⟩
      exact w1 H' (gr.stp A) (r1.grow gr) p us hp q'
    | err _ _ =>
      have w1 : Wp c W O A σ H1 (match F (ds.map .dat) with | .ok es _ => .ok es s1 | _ => .bad) (fun ds _ H' => ∀ p vs, H' p = none → DpAll c.K (cut O H') vs ds → Q (.ref p) (upd H' p (.lst vs))) := w1
      rw [z] at w1
      exact w1.elim
    | bad =>
      have w1 : Wp c W O A σ H1 (match F (ds.map .dat) with | .ok es _ => .ok es s1 | _ => .bad) (fun ds _ H' => ∀ p vs, H' p = none → DpAll c.K (cut O H') vs ds → Q (.ref p) (upd H' p (.lst vs))) := w1
      rw [z] at w1
      exact w1.elim
  · rw [if_neg hl] at w1
    exact w1.elim
/-! ### defs by bundles -/
structure Gv (K : PySem.W.Frag) (mg : Str → Option Value) (x : Str) (st : Stmt) (ps : List Str) where
  f : Addr
  fd : FuncData
  fn : Fun K x x st f fd
  m : mg x = some (.ref f)
  kp : PySem.W.keepIn K (.ref f) = true
  bi : Binds K fd ps []
/-- .. whose code object's table grows -/
structure Gt (K : PySem.W.Frag) (mg : Str → Option Value) (x : Str) (st : Stmt) (ps : List Str) extends Gv K mg x st ps where
  cc : Addr
  PT : Addr
  fc : FunC K x x st f fd cc
theorem d_c {k np : Nat} {x : Str} {st : Stmt} {ps : List Str} {F : FnM} {p : Pos} {es : List Expr} (G : Gv X.K X.mg x st ps) (Fk : FnOk X.prog X.w X.K X.mg X.base (L2.CX X.prog X.w) k G.f G.fd ps (spF c.K c.T c.ca np F)) (hr : Room k X.A) (tk : Takes X W) (ha : DA c X W (a :: es) fs) (hg : Gl X x := by rfl) (hdb : (x == ("__debug__" : Str)) = false := by decide) (he : starEach (a :: es) X.env = (false, eval a X.env) :: starEach es X.env := by rfl) (hpl : (backTo pos (starEach es X.env)).any (·.1) = false := by rfl) :
    DE c X W (.Call (.Name x p) (a :: es) [] pos) (mCall np F fs) := d_call Fk hr tk G.m G.kp G.bi ha hg hdb he hpl
theorem f_c {k np : Nat} {x : Str} {st : Stmt} {ps : List Str} {F : FnL} {p : Pos} {es : List Expr} (G : Gv X.K X.mg x st ps) (Fk : FnOk X.prog X.w X.K X.mg X.base (L2.CX X.prog X.w) k G.f G.fd ps (spL c.K c.T np F)) (hr : Room k X.A) (tk : Takes X W) (ha : DA c X W (a :: es) fs) (hg : Gl X x := by rfl) (hdb : (x == ("__debug__" : Str)) = false := by decide) (he : starEach (a :: es) X.env = (false, eval a X.env) :: starEach es X.env := by rfl) (hpl : (backTo pos (starEach es X.env)).any (·.1) = false := by rfl) :
    DF c X W (.Call (.Name x p) (a :: es) [] pos) (mCallL np F fs) := by
  obtain ⟨ta, pa, sa⟩ := ha
  exact ⟨_, pe_callS Fk hr hg G.m G.kp G.bi (fun σ => passAt tk σ) pa hdb he hpl, sem_callL sa⟩
/-- an owned list's slice: a new list -/
def mSlF (i : Nat) (lo hi : M (Option Int)) : M (List D) := fun s => match ownAt s i with
  | none => .bad
  | some _ => (lo s).bind fun l s1 => (hi s1).bind fun u s2 => match ownAt s2 i with
    | some xs => .ok (cutD xs l u) s2
    | none => .bad
theorem f_slo (i : Nat) {x : Str} {px : Pos} {lo hi : Option Expr} {fl fh : M (Option Int)} {p2 : Pos} (hl : DP c X W lo fl) (hh : DP c X W hi fh) (hN : X.N[i]? = some x := by rfl) (hv : Vis X.env.scope x := by first | exact Or.inl rfl | exact Or.inr (Or.inl rfl) | exact Or.inr (Or.inr rfl)) (hK : c.K = X.K := by rfl)
    (hd : (x == ("__debug__" : Str)) = false := by decide) (hcd : (x == ("__classdict__" : Str)) = false := by decide) : DF c X W (.Subscript (.Name x px) (.Slice lo hi none p2) pos) (mSlF i fl fh) := by
  obtain ⟨tl, pl, sl⟩ := hl
  obtain ⟨th, ph, sh⟩ := hh
  refine ⟨_, pe_slice sl_list (pe_var hN hv hd hcd) pl ph, ?_⟩
  intro O A σ H s r Q w
  unfold mSlF at w
  cases z0 : ownAt s i with
  | none => rw [z0] at w; exact w.elim
  | some ds0 =>
    rw [z0] at w
    obtain ⟨p, us, hσ, _, _, _⟩ := rel_own r z0
    refine ⟨.ref p, hσ, ?_⟩
    refine sl O A σ H s r _ (Wp.mono (Wp.bind w) ?_)
    intro l s2 H2 _ f2 r2 w2
    refine sh O A σ H2 s2 r2 _ (Wp.mono (Wp.bind w2) ?_)
    intro u s3 H3 _ f3 r3 w3
    cases z : ownAt s3 i with
    | none => rw [z] at w3; exact w3.elim
    | some ds =>
      rw [z] at w3
      obtain ⟨p', xs, hσ', _, h1, h2⟩ := rel_own r3 z
      rw [hσ] at hσ'
      cases hσ'
      refine ⟨p, xs, rfl, SqL.of h1, fun y hy => ?_⟩
      exact w3 H3 (Stp.refl _ _) r3 y _ hy (dpa_cut h2 l u)
/-- total += e, ints -/
def addI : D → D → Option D
  | .int i, .int j => some (.int (i + j))
  | _, _ => none
theorem o_addI : Oq2 c (rI0 fun i j => .int (i + j)) addI := intop (fun i j d e H Q k => ⟨i, j, rfl, rfl, k _ fun G => by
    have e := Option.some.inj (show some (PyData.int (i + j)) = some d from e)
    subst e
    exact .int _⟩) (fun v w d e => by cases v <;> cases w <;> first | exact ⟨_, _, rfl, rfl⟩ | cases e)
/-- a promise that promises nothing -/
theorem fn_bad {P : Program} {w : World} {K : PySem.W.Frag} {mg : Str → Option Value} {base : Heap} {k : Nat} {f : Addr} {fd : FuncData} {ps : List Str} {T : List Addr} {ca : Str → Addr} {np : Nat} (h : ps.length = np) : FnOk P w K mg base (L2.CX P w) k f fd ps (spF K T ca np fun _ => .bad) := by
  refine ⟨fun vs H Q E h2 => ?_, fun A outer s H args us vs Q E hr e0 hb r h2 => ?_⟩
  · obtain ⟨_, _, _, b, _⟩ := h2
    rw [b.lv, h]
  · obtain ⟨_, _, _, _, z⟩ := h2
    exact z.elim
end
theorem bt_len : bootBuiltins "len" = some (.builtin "len") := by decide +kernel
theorem bt_abs : bootBuiltins "abs" = some (.builtin "abs") := by decide +kernel
theorem bt_isinstance : bootBuiltins "isinstance" = some (.builtin "isinstance") := by decide +kernel
theorem bt_int : bootBuiltins "int" = some (.type "int") := by decide +kernel
theorem bt_tuple : bootBuiltins "tuple" = some (.type "tuple") := by decide +kernel
theorem bt_list : bootBuiltins "list" = some (.type "list") := by decide +kernel
theorem bt_str : bootBuiltins "str" = some (.type "str") := by decide +kernel
theorem bt_bool : bootBuiltins "bool" = some (.type "bool") := by decide +kernel
theorem bt_dict : bootBuiltins "dict" = some (.type "dict") := by decide +kernel
end DL

namespace DL
open PySem PySem.Spec L2
theorem bt_ValueError : bootBuiltins "ValueError" = some (.type "ValueError") := by decide +kernel
/-- e answers b in the suite that holds the exception at a in slot i -/
def IsE (X : Cx) (a : Addr) (oe : Obj) (pn : List (Addr × Obj)) (i : Nat) (e : Expr) (b : Bool) : Prop := ∃ te : TE, PE (X.suite a ((a, oe) :: pn)) e te ∧ ∀ (σ : St) (H : Hp) (Q : VK), σ[i]? = some (some (.ref a)) → Q (.bl b) H → te σ H Q
section
variable {X : Cx} {a : Addr} {oe : Obj} {pn : List (Addr × Obj)} {i : Nat} {b b' : Bool} {e e' : Expr} {pos : Pos}
theorem is_name_ {D : Addr} {n xC : Str} {c : V} {cv : Value} {p0 p1 p2 p3 : Pos} (C : ExcC X.K D) (hz : Zc (.ref D) none oe) (hf : ∃ vs, oe.data = .fields vs) (hm : X.mg "isinstance" = none) (pc : PE (X.suite a ((a, oe) :: pn)) (.Name xC p2) (tC c)) (hcv : ∀ u, RelV c u → u = cv) (hk : PySem.W.kitOne X.K (.ref D) cv = some b)
    (hN : X.N[i]? = some n := by rfl) (hv : Vis X.env.scope n := by first | exact Or.inl rfl | exact Or.inr (Or.inl rfl) | exact Or.inr (Or.inr rfl)) (hd : (n == ("__debug__" : Str)) = false := by decide) (hcd : (n == ("__classdict__" : Str)) = false := by decide) (hg : Gl X "isinstance" := by rfl)
    (hs1 : starEach [.Name n p0, .Name xC p2] X.env = (false, eval (.Name n p0) X.env) :: starEach [.Name xC p2] X.env := by rfl) (hs2 : starEach [.Name xC p2] X.env = (false, eval (.Name xC p2) X.env) :: starEach [] X.env := by rfl) (hpl : (backTo p3 (starEach [.Name xC p2] X.env)).any (·.1) = false := by rfl) :
    IsE X a oe pn i (.Call (.Name "isinstance" p1) [.Name n p0, .Name xC p2] [] p3) b := by
  refine ⟨_, pe_callB (call_isE C hz hf) hg hm bt_isinstance (pa_cons (pe_var (i := i) hN hv hd hcd) (pa_cons pc pa_nil hs2) hs1) (by decide) (by decide) hs1 hpl, ?_⟩
  intro σ H Q hσ q
  exact ⟨.ref a, hσ, c, cv, b, rfl, hcv, hk, q⟩
theorem is_own {D C0 : Addr} {n xC : Str} {p0 p1 p2 p3 : Pos} (C : ExcC X.K D) (hz : Zc (.ref D) none oe) (hf : ∃ vs, oe.data = .fields vs) (hm : X.mg "isinstance" = none) (hC : X.mg xC = some (.ref C0)) (hk : PySem.W.kitOne X.K (.ref D) (.ref C0) = some b)
    (hN : X.N[i]? = some n := by rfl) (hv : Vis X.env.scope n := by first | exact Or.inl rfl | exact Or.inr (Or.inl rfl) | exact Or.inr (Or.inr rfl)) (hd : (n == ("__debug__" : Str)) = false := by decide) (hcd : (n == ("__classdict__" : Str)) = false := by decide) (hg : Gl X "isinstance" := by rfl) (hgC : Gl X xC := by rfl) (hdC : (xC == ("__debug__" : Str)) = false := by decide)
    (hs1 : starEach [.Name n p0, .Name xC p2] X.env = (false, eval (.Name n p0) X.env) :: starEach [.Name xC p2] X.env := by rfl) (hs2 : starEach [.Name xC p2] X.env = (false, eval (.Name xC p2) X.env) :: starEach [] X.env := by rfl) (hpl : (backTo p3 (starEach [.Name xC p2] X.env)).any (·.1) = false := by rfl) :
    IsE X a oe pn i (.Call (.Name "isinstance" p1) [.Name n p0, .Name xC p2] [] p3) b :=
  is_name_ (c := .ref C0) C hz hf hm (pe_glob hgC hC rfl hdC) (fun u r => r) hk hN hv hd hcd hg hs1 hs2 hpl
theorem is_ty {D : Addr} {T : String} {n xC : Str} {p0 p1 p2 p3 : Pos} (C : ExcC X.K D) (hz : Zc (.ref D) none oe) (hf : ∃ vs, oe.data = .fields vs) (hm : X.mg "isinstance" = none) (hC : X.mg xC = none) (hT : bootBuiltins xC = some (.type T)) (hk : PySem.W.kitOne X.K (.ref D) (.type T) = some b)
    (hN : X.N[i]? = some n := by rfl) (hv : Vis X.env.scope n := by first | exact Or.inl rfl | exact Or.inr (Or.inl rfl) | exact Or.inr (Or.inr rfl)) (hd : (n == ("__debug__" : Str)) = false := by decide) (hcd : (n == ("__classdict__" : Str)) = false := by decide) (hg : Gl X "isinstance" := by rfl) (hgC : Gl X xC := by rfl) (hnC : xC ≠ "__name__" := by decide) (hdC : (xC == ("__debug__" : Str)) = false := by decide)
    (hs1 : starEach [.Name n p0, .Name xC p2] X.env = (false, eval (.Name n p0) X.env) :: starEach [.Name xC p2] X.env := by rfl) (hs2 : starEach [.Name xC p2] X.env = (false, eval (.Name xC p2) X.env) :: starEach [] X.env := by rfl) (hpl : (backTo p3 (starEach [.Name xC p2] X.env)).any (·.1) = false := by rfl) :
    IsE X a oe pn i (.Call (.Name "isinstance" p1) [.Name n p0, .Name xC p2] [] p3) b :=
  is_name_ (c := .ty T) C hz hf hm (pe_bltn hgC hC hT rfl hnC hdC) (fun u r => r) hk hN hv hd hcd hg hs1 hs2 hpl
theorem is_one {op : BoolOp} (h : IsE X a oe pn i e b) : IsE X a oe pn i (.BoolOp op [e] pos) b := by
  obtain ⟨te, p, s⟩ := h
  exact ⟨te, pe_one p, s⟩
theorem is_and {rest : List Expr} (h : IsE X a oe pn i e true) (h' : IsE X a oe pn i (.BoolOp .And (e' :: rest) pos) b) : IsE X a oe pn i (.BoolOp .And (e :: e' :: rest) pos) b := by
  obtain ⟨te, p, s⟩ := h
  obtain ⟨te', p', s'⟩ := h'
  exact ⟨_, pe_and p p', fun σ H Q hσ q => s σ H _ hσ ⟨true, rfl, (if_pos rfl).mpr (s' σ H Q hσ q)⟩⟩
theorem is_not (h : IsE X a oe pn i e b) : IsE X a oe pn i (.UnaryOp .Not e pos) (!b) := by
  obtain ⟨te, p, s⟩ := h
  exact ⟨_, pe_not p, fun σ H Q hσ q => s σ H _ hσ ⟨b, rfl, q⟩⟩
end
theorem kit_ref {K : PySem.W.Frag} {D C : Addr} {b : Bool} (hs : PySem.W.subIn K (.ref D) (.ref C) = some b) (ne : (Value.ref D == Value.ref C) = false) (hd : PySem.W.hasDictIn K C = true) (ht : PySem.W.typeIn K (.ref C) = some (.type "type")) : PySem.W.kitOne K (.ref D) (.ref C) = some b := by
  have hc : (PySem.W.clsIn K C).isSome = true := by
    unfold PySem.W.hasDictIn at hd
    cases e : PySem.W.clsIn K C with
    | some _ => rfl
    | none => rw [e] at hd; cases hd
  unfold PySem.W.kitOne
  rw [ne, if_neg Bool.false_ne_true]
  unfold PySem.W.kitCls
  show (if ((PySem.W.clsIn K C).isSome && PySem.W.typeIn K (.ref C) == some (.type "type")) = true then PySem.W.subIn K (.ref D) (.ref C) else none) = some b
  rw [hc, ht]
  exact hs
theorem kit_typ {K : PySem.W.Frag} {D : Addr} {T : String} {b : Bool} (hs : PySem.W.subIn K (.ref D) (.type T) = some b) (hm : PySem.W.kitMeta T = true) : PySem.W.kitOne K (.ref D) (.type T) = some b := by
  unfold PySem.W.kitOne
  rw [show (Value.ref D == Value.type T) = false from rfl, if_neg Bool.false_ne_true]
  unfold PySem.W.kitCls
  show (if PySem.W.kitMeta T = true then PySem.W.subIn K (.ref D) (.type T) else none) = some b
  rw [if_pos hm]
  exact hs
theorem tab_of_code {K : PySem.W.Frag} {x : Str} {f cc PT : Addr} {oc : Value} {od an : Option Addr} {osl : Array (Option Value)} {n q : Str} {pa : Arguments} {bd : List Stmt} {sc : Scope} {dV kV doc pm ct : Value} {oc' : Value} {od' : Option Addr} {vs : Array Value} {sl' : Array (Option Value)} (h1 : PySem.W.nsIn K mainGlobals x = some (some (.ref f)))
    (l : K.lookup f = some ⟨oc, od, .func (PySem.W.fnOf n q pa bd sc dV kV doc pm an (.ref cc) ct), osl⟩) (t : K.lookup cc = some ⟨oc', od', .fields vs, sl'⟩) (u : (vs[11]? : Option Value) = some (.ref PT)) : PySem.W.tabIn K x = some (cc, PT) := by
  unfold PySem.W.tabIn
  rw [h1]
  dsimp only
  rw [l]
  dsimp only [PySem.W.fnOf]
  rw [t]
  dsimp only
  rw [u]
end DL

/-! reckoning with mirrors -/
namespace DL
open PySem PySem.Spec L2
theorem isi_ss : kitB "str" "str" = some true := by decide +kernel
theorem isi_tt : kitB "tuple" "tuple" = some true := by decide +kernel
theorem isi_ns : kitB "NoneType" "str" = some false := by decide +kernel
theorem isi_bs : kitB "bool" "str" = some false := by decide +kernel
theorem isi_is : kitB "int" "str" = some false := by decide +kernel
theorem isi_ls : kitB "list" "str" = some false := by decide +kernel
theorem isi_ts : kitB "tuple" "str" = some false := by decide +kernel
theorem isi_ds : kitB "dict" "str" = some false := by decide +kernel
theorem isi_nt : kitB "NoneType" "tuple" = some false := by decide +kernel
theorem isi_bt : kitB "bool" "tuple" = some false := by decide +kernel
theorem isi_it : kitB "int" "tuple" = some false := by decide +kernel
theorem isi_st : kitB "str" "tuple" = some false := by decide +kernel
theorem isi_lt : kitB "list" "tuple" = some false := by decide +kernel
theorem isi_dt : kitB "dict" "tuple" = some false := by decide +kernel
theorem isi_ll : kitB "list" "list" = some true := by decide +kernel
def isS : D → Bool
  | .str _ => true
  | _ => false
def isT : D → Bool
  | .tuple _ => true
  | _ => false
theorem isi_str (d : D) : isiD "str" d = some (.bool (isS d)) := by
  cases d <;> simp only [isiD, tyN, isS, isi_ns, isi_bs, isi_is, isi_ss, isi_ls, isi_ts, isi_ds, Option.map]
theorem isi_tup (d : D) : isiD "tuple" d = some (.bool (isT d)) := by
  cases d <;> simp only [isiD, tyN, isT, isi_nt, isi_bt, isi_it, isi_st, isi_lt, isi_tt, isi_dt, Option.map]
theorem isi_list (xs : List D) : isiD "list" (.list xs) = some (.bool true) := by simp only [isiD, tyN, isi_ll, Option.map]
theorem isT_t (xs : List D) : isT (.tuple xs) = true := rfl
theorem isT_s (x : Str) : isT (.str x) = false := rfl
theorem isT_l (xs : List D) : isT (.list xs) = false := rfl
theorem isT_i (i : Int) : isT (.int i) = false := rfl
theorem isT_n : isT .none = false := rfl
theorem isS_s (x : Str) : isS (.str x) = true := rfl
theorem isS_t (xs : List D) : isS (.tuple xs) = false := rfl
theorem isS_l (xs : List D) : isS (.list xs) = false := rfl
theorem isS_i (i : Int) : isS (.int i) = false := rfl
theorem isS_n : isS .none = false := rfl
/-! ### operations at constructors -/
theorem addD_i (i j : Int) : addD (.int i) (.int j) = some (.int (i + j)) := rfl
theorem addI_i (i j : Int) : addI (.int i) (.int j) = some (.int (i + j)) := rfl
theorem subD_i (i j : Int) : subD (.int i) (.int j) = some (.int (i - j)) := rfl
theorem addD_l {xs ys : List D} (h : xs.length + ys.length ≤ sizeLine) : addD (.list xs) (.list ys) = some (.list (xs ++ ys)) := if_pos h
theorem addD_t {xs ys : List D} (h : xs.length + ys.length ≤ sizeLine) : addD (.tuple xs) (.tuple ys) = some (.tuple (xs ++ ys)) := if_pos h
theorem leD_i (i j : Int) : leD (.int i) (.int j) = some (.bool (decide (i ≤ j))) := by rw [← leI_eq]; rfl
theorem leD_s (i j : Str) : leD (.str i) (.str j) = some (.bool (!ltS j i)) := rfl
theorem ltD_i (i j : Int) : ltD (.int i) (.int j) = some (.bool (decide (i < j))) := by rw [← ltI_eq]; rfl
theorem ltD_s (i j : Str) : ltD (.str i) (.str j) = some (.bool (ltS i j)) := rfl
theorem gtD_i (i j : Int) : gtD (.int i) (.int j) = some (.bool (decide (j < i))) := by rw [← ltI_eq]; rfl
theorem geD_i (i j : Int) : geD (.int i) (.int j) = some (.bool (decide (j ≤ i))) := by rw [← leI_eq]; rfl
theorem eqD_i (i j : Int) : eqD (.int i) (.int j) = some (.bool (i == j)) := by simp only [eqD, scalD, true_or, if_true, PyData.eqv]
theorem neD_i (i j : Int) : neD (.int i) (.int j) = some (.bool (!(i == j))) := by simp only [neD, scalD, true_or, if_true, PyData.eqv]
theorem eqD_b (i j : Bool) : eqD (.bool i) (.bool j) = some (.bool (i == j)) := by simp only [eqD, scalD, true_or, if_true, PyData.eqv]
theorem neD_b (i j : Bool) : neD (.bool i) (.bool j) = some (.bool (!(i == j))) := by simp only [neD, scalD, true_or, if_true, PyData.eqv]
theorem eqD_s (i j : Str) : eqD (.str i) (.str j) = some (.bool (i == j)) := by simp only [eqD, scalD, true_or, if_true, PyData.eqv]
theorem lenD_l (xs : List D) : lenD [.list xs] = some (.int xs.length) := rfl
theorem lenD_t (xs : List D) : lenD [.tuple xs] = some (.int xs.length) := rfl
theorem lenD_s {x : Str} (h : x.length ≤ sizeLine) : lenD [.str x] = some (.int x.length) := if_pos h
theorem mulD_k {i j : Int} (h : -(2 ^ 64) < j ∧ j < 2 ^ 64) : mulD (.int i) (.int j) = some (.int (i * j)) := if_pos (Bool.or_eq_true_iff.mpr (.inr (btw_iff.mpr h)))
theorem mul_str {z : Str} {k : Int} (h : 2 ≤ k ∧ k ≤ 1000 ∧ 0 < z.length ∧ z.length ≤ 1000) : mulD (.str z) (.int k) = some (.str (repS k.toNat z)) := if_pos h
theorem fdivD_k {i j : Int} (h : 0 < j ∧ j < 1073741824) : fdivD (.int i) (.int j) = some (.int (i / j)) := if_pos (btw_iff.mpr h)
theorem modD_k {i j : Int} (h : 0 < j) : modD (.int i) (.int j) = some (.int (i % j)) := if_pos h
theorem absD_i (i : Int) : absD [.int i] = some (.int (if i < 0 then -i else i)) := rfl
theorem intD_i (i : Int) : intD [.int i] = some (.int i) := rfl
theorem tupD_l (xs : List D) : tupD [.list xs] = some (.tuple xs) := rfl
theorem tupD_t (xs : List D) : tupD [.tuple xs] = some (.tuple xs) := rfl
theorem lstD_l (xs : List D) : lstD [.list xs] = some (.list xs) := rfl
theorem lstD_t (xs : List D) : lstD [.tuple xs] = some (.list xs) := rfl
theorem mkT_s {xs : List D} (h : xs.length ≤ sizeLine) : mkT xs = some (.tuple xs) := if_pos h
theorem mkL_s {xs : List D} (h : xs.length ≤ sizeLine) : mkL xs = some (.list xs) := if_pos h
theorem small_line {n : Nat} (h : n ≤ 100000) : n ≤ sizeLine := Nat.le_trans h (by decide)
theorem mkT_0 : mkT [] = some (.tuple []) := rfl
theorem mkT_1 (a : D) : mkT [a] = some (.tuple [a]) := mkT_s (small_line (by simp))
theorem mkT_2 (a b : D) : mkT [a, b] = some (.tuple [a, b]) := mkT_s (small_line (by simp))
theorem mkT_3 (a b c : D) : mkT [a, b, c] = some (.tuple [a, b, c]) := mkT_s (small_line (by simp))
theorem mkL_0 : mkL [] = some (.list []) := rfl
theorem mkL_1 (a : D) : mkL [a] = some (.list [a]) := mkL_s (small_line (by simp))
theorem sized_0 : sized [] = some [] := rfl
theorem sized_1 (a : D) : sized [a] = some [a] := if_pos (small_line (by simp))
theorem atI_nat' {α : Type} {xs : List α} {k : Nat} {a : α} (h : xs[k]? = some a) : atI xs (k : Int) = some a := atI_nat h
theorem ixD_t {xs : List D} {k : Nat} {d : D} (h : xs[k]? = some d) : ixD (.tuple xs) (.int (k : Int)) = some d := atI_nat h
theorem ixD_l {xs : List D} {k : Nat} {d : D} (h : xs[k]? = some d) : ixD (.list xs) (.int (k : Int)) = some d := atI_nat h
theorem ix_0 (a : D) (r : List D) : ixD (.tuple (a :: r)) (.int 0) = some a := ixD_t (k := 0) rfl
theorem ix_1 (a b : D) (r : List D) : ixD (.tuple (a :: b :: r)) (.int 1) = some b := ixD_t (k := 1) rfl
theorem ix_2 (a b e : D) (r : List D) : ixD (.tuple (a :: b :: e :: r)) (.int 2) = some e := ixD_t (k := 2) rfl
theorem rng1_i {j : Int} (h : -(2 ^ 62) ≤ j ∧ j < 2 ^ 62) : rng1 [.int j] = some (upto 0 j.toNat) := if_pos (btw_iff.mpr (by omega))
theorem rng2_i {i j : Int} (h : -(2 ^ 62) ≤ i ∧ i < 2 ^ 62 ∧ -(2 ^ 62) ≤ j ∧ j < 2 ^ 62) : rng2 [.int i, .int j] = some (upto i (j - i).toNat) := if_pos (Bool.and_eq_true_iff.mpr ⟨btw_iff.mpr (by omega), btw_iff.mpr (by omega)⟩)
theorem cast_0 : ((0 : Nat) : Int) = 0 := rfl
theorem cast_1 : ((1 : Nat) : Int) = 1 := rfl
theorem cast_2 : ((2 : Nat) : Int) = 2 := rfl
theorem cast_3 : ((3 : Nat) : Int) = 3 := rfl
theorem cast_4 : ((4 : Nat) : Int) = 4 := rfl
theorem cast_5 : ((5 : Nat) : Int) = 5 := rfl
theorem cast_6 : ((6 : Nat) : Int) = 6 := rfl
theorem cast_7 : ((7 : Nat) : Int) = 7 := rfl
theorem cast_8 : ((8 : Nat) : Int) = 8 := rfl
theorem cast_9 : ((9 : Nat) : Int) = 9 := rfl
theorem cast_10 : ((10 : Nat) : Int) = 10 := rfl
theorem cast_11 : ((11 : Nat) : Int) = 11 := rfl
theorem cast_12 : ((12 : Nat) : Int) = 12 := rfl
/-! ### words with a match in them -/
def chK : Option D → Sts → Rs D → Rs D
  | some (.bool true), _, x => x
  | some (.bool false), s, _ => .ok (.bool false) s
  | _, _, _ => .bad
theorem chK_b (b : Bool) (s : Sts) (x : Rs D) : chK (some (.bool b)) s x = if b = true then x else .ok (.bool false) s := by cases b <;> rfl
theorem chain_eq (f g h : M D) (op op' : D → D → Option D) : mChain f g h op op' = fun s => (f s).bind fun a s1 => (g s1).bind fun b s2 => chK (op a b) s2 ((h s2).bind fun d s3 => lift (op' b d) s3) := by
  funext s
  unfold mChain
  cases f s with
  | ok a s1 =>
    simp only [bind_ok]
    cases g s1 with
    | ok b s2 =>
      simp only [bind_ok]
      rcases op a b with _ | v
      · rfl
      · cases v with
        | bool b => cases b <;> rfl
        | _ => rfl
    | err _ _ => rfl
    | bad => rfl
  | err _ _ => rfl
  | bad => rfl
theorem andV_eq (f g : M D) : mAndV f g = fun s => (f s).bind fun d s1 => match d with | .bool b => (if b = true then g s1 else .ok (.bool false) s1) | _ => .bad := by
  funext s
  unfold mAndV
  cases f s with
  | ok d s1 => cases d with
    | bool b => cases b <;> rfl
    | _ => rfl
  | err _ _ => rfl
  | bad => rfl
theorem orV_eq (f g : M D) : mOrV f g = fun s => (f s).bind fun d s1 => match d with | .bool b => (if b = true then .ok (.bool true) s1 else g s1) | _ => .bad := by
  funext s
  unfold mOrV
  cases f s with
  | ok d s1 => cases d with
    | bool b => cases b <;> rfl
    | _ => rfl
  | err _ _ => rfl
  | bad => rfl
theorem call_ok {np : Nat} {F : FnM} {fa : M (List D)} {s s1 : Sts} {ds : List D} {d : D} {ss : Sts} (ha : fa s = .ok ds s1) (hl : ds.length = np) (h : F (ds.map .dat) = .ok d ss) : mCall np F fa s = .ok d s1 := by
  unfold mCall
  rw [ha]
  simp only [bind_ok]
  rw [if_pos hl, h]
theorem call_err {np : Nat} {F : FnM} {fa : M (List D)} {s s1 : Sts} {ds : List D} {x : Str} {ss : Sts} (ha : fa s = .ok ds s1) (hl : ds.length = np) (h : F (ds.map .dat) = .err x ss) : mCall np F fa s = .err x s1 := by
  unfold mCall
  rw [ha]
  simp only [bind_ok]
  rw [if_pos hl, h]
theorem run_ret {n : Nat} {g : G} {ss st s : Sts} {d : D} {o : Sts} (hg : g st = .ret d s) (hs : ss ++ List.replicate (n - ss.length) .un = st := by rfl) (ho : outs ss s = o := by rfl) : run n g ss = .ok d o := by
  subst hs
  subst ho
  unfold run
  rw [hg]
theorem run_nx {n : Nat} {g : G} {ss st s : Sts} {o : Sts} (hg : g st = .nx s) (hs : ss ++ List.replicate (n - ss.length) .un = st := by rfl) (ho : outs ss s = o := by rfl) : run n g ss = .ok .none o := by
  subst hs
  subst ho
  unfold run
  rw [hg]
theorem run_err {n : Nat} {g : G} {ss st s : Sts} {x : Str} {o : Sts} (hg : g st = .err x s) (hs : ss ++ List.replicate (n - ss.length) .un = st := by rfl) (ho : outs ss s = o := by rfl) : run n g ss = .err x o := by
  subst hs
  subst ho
  unfold run
  rw [hg]
/-! ### loops -/
theorem for_nil (t : Tg) (b : G) (s : Sts) : forG t b [] s = .nx s := rfl
theorem for_nx {t : Tg} {b : G} {d : D} {r : List D} {s s1 s2 : Sts} (h : t d s = some s1) (hb : b s1 = .nx s2) : forG t b (d :: r) s = forG t b r s2 := by
  rw [forG.eq_2, h]
  simp only
  rw [hb]
theorem for_ret {t : Tg} {b : G} {d v : D} {r : List D} {s s1 s2 : Sts} (h : t d s = some s1) (hb : b s1 = .ret v s2) : forG t b (d :: r) s = .ret v s2 := by
  rw [forG.eq_2, h]
  simp only
  rw [hb]
theorem for_err {t : Tg} {b : G} {d : D} {x : Str} {r : List D} {s s1 s2 : Sts} (h : t d s = some s1) (hb : b s1 = .err x s2) : forG t b (d :: r) s = .err x s2 := by
  rw [forG.eq_2, h]
  simp only
  rw [hb]
theorem lc_eq {vs : List Nat} {t : Tg} {test : M Bool} {elt : M D} {s : Sts} {p : D → Option D} : ∀ {ds : List D}, (∀ d ∈ ds, ∃ s1, t d s = some s1 ∧ ((∃ x, p d = some x ∧ test s1 = .ok true s1 ∧ elt s1 = .ok x s1) ∨ (p d = none ∧ test s1 = .ok false s1)) ∧ wipeS s1 vs = s) → lcG vs t test elt ds s = .ok (ds.filterMap p) s
  | [], _ => rfl
  | d :: r, h => by
    obtain ⟨s1, e1, e2, e3⟩ := h d List.mem_cons_self
    have ih := lc_eq (ds := r) fun d hd => h d (List.mem_cons_of_mem _ hd)
    unfold lcG
    rw [e1]
    rcases e2 with ⟨x, a, b, c⟩ | ⟨a, b⟩
    · simp only
      rw [b]
      simp only [bind_ok, if_true]
      rw [c]
      simp only [bind_ok]
      rw [e3, ih, List.filterMap_cons_some a]
      rfl
    · simp only
      rw [b]
      simp only [bind_ok, Bool.false_eq_true, if_false]
      rw [e3, ih, List.filterMap_cons_none a]
theorem lc_map {vs : List Nat} {t : Tg} {elt : M D} {s : Sts} {p : D → D} {ds : List D} (h : ∀ d ∈ ds, ∃ s1, t d s = some s1 ∧ elt s1 = .ok (p d) s1 ∧ wipeS s1 vs = s) : lcG vs t mYes elt ds s = .ok (ds.map p) s := by
  rw [lc_eq (p := fun d => some (p d)) fun d hd => ?_]
  · rw [List.filterMap_eq_map']
  · obtain ⟨s1, a, b, c⟩ := h d hd
    exact ⟨s1, a, .inl ⟨_, rfl, rfl, b⟩, c⟩
theorem any_eq {vs : List Nat} {t : Tg} {elt : M D} {s : Sts} {p : D → Bool} : ∀ {ds : List D}, (∀ d ∈ ds, ∃ s1, t d s = some s1 ∧ elt s1 = .ok (.bool (p d)) s1 ∧ wipeS s1 vs = s) → anyG true vs t elt ds s = .ok (ds.any p) s
  | [], _ => rfl
  | d :: r, h => by
    obtain ⟨s1, e1, e2, e3⟩ := h d List.mem_cons_self
    have ih := any_eq (ds := r) fun d hd => h d (List.mem_cons_of_mem _ hd)
    unfold anyG
    rw [e1]
    simp only
    rw [e2]
    simp only [bind_ok]
    rw [e3, ih, List.any_cons]
    cases p d <;> simp
theorem all_eq {vs : List Nat} {t : Tg} {elt : M D} {s : Sts} {p : D → Bool} : ∀ {ds : List D}, (∀ d ∈ ds, ∃ s1, t d s = some s1 ∧ elt s1 = .ok (.bool (p d)) s1 ∧ wipeS s1 vs = s) → anyG false vs t elt ds s = .ok (ds.all p) s
  | [], _ => rfl
  | d :: r, h => by
    obtain ⟨s1, e1, e2, e3⟩ := h d List.mem_cons_self
    have ih := all_eq (ds := r) fun d hd => h d (List.mem_cons_of_mem _ hd)
    unfold anyG
    rw [e1]
    simp only
    rw [e2]
    simp only [bind_ok]
    rw [e3, ih, List.all_cons]
    cases p d <;> simp
end DL

/-! more operations: the order of alike tuples, minus, constants of the module that are tuples -/
namespace DL
open PySem PySem.Spec L2
section
variable {c : Cf} {X : Cx} {W : WX} {a b : Expr} {f : M D} {fs : M (List D)} {pos : Pos}
def tupLt (d e : D) : Option D := match d, e with
  | .tuple xs, .tuple ys => if (PySem.W.alikeAll xs ys && decide ((PyData.tuple xs).depth ≤ 64)) = true then some (.bool (PySem.W.dataLt (.tuple xs) (.tuple ys))) else none
  | _, _ => none
def ltE (d e : D) : Option D := match ltD d e with
  | some r => some r
  | none => tupLt d e
def rLtD (K : PySem.W.Frag) : R2 := fun x y H Q => ∃ d e, Dp K H x d ∧ Dp K H y e ∧ PySem.W.alike d e = true ∧ d ≠ .none ∧ d.depth ≤ 64 ∧ Q (.bl (PySem.W.dataLt d e)) H
def rLtE (K : PySem.W.Frag) : R2 := fun x y H Q => rOrd (fun i j => decide (i < j)) ltS x y H Q ∨ rLtD K x y H Q
theorem op_ltD (hu : X.A.units + 64 < cLine) : OpR X (compareOp .Lt) (rLtD X.K) := by
  intro pins s σ H x y v u Q I rx ry h
  obtain ⟨d, e, hd, he, al, nn, dp, q⟩ := h
  obtain ⟨as, r1⟩ := Dp.reads I d x v hd rx
  obtain ⟨bs, r2⟩ := Dp.reads I e y u he ry
  have := PySem.W.rcLt_alike d e X.A s v u as bs r1 r2 al nn (by have := Nat.min_le_left d.depth e.depth; omega)
  exact this X.prog X.w _ _ ⟨.bl _, H, I, rfl, q⟩
theorem op_ltE {k : Nat} (hr : Room k X.A) : OpR X (compareOp .Lt) (rLtE X.K) := OpR.or op_ltA (op_ltD hr.units)
theorem o_ltE (hK : c.K = X.K) : Oq2 c (rLtE X.K) ltE := by
  intro O H x y v w d al e q1 q2 Q k
  unfold ltE at e
  cases z : ltD v w with
  | some r =>
    rw [z] at e
    have e := Option.some.inj e
    subst e
    exact .inl (o_lt O H x y v w _ al z q1 q2 Q k)
  | none =>
    rw [z] at e
    have e : tupLt v w = some d := e
    cases v with
    | tuple xs =>
      cases w with
      | tuple ys =>
        have e : (if (PySem.W.alikeAll xs ys && decide ((PyData.tuple xs).depth ≤ 64)) = true then some (PyData.bool (PySem.W.dataLt (.tuple xs) (.tuple ys))) else none) = some d := e
        split at e
        · rename_i hh
          have e := Option.some.inj e
          subst e
          obtain ⟨h1, h2⟩ := Bool.and_eq_true_iff.mp hh
          exact .inr ⟨_, _, hK ▸ dq_dp q1, hK ▸ dq_dp q2, (by rw [PySem.W.alike]; exact h1), (fun z => by cases z), of_decide_eq_true h2, k _ H (Grow.refl _ _) (.bl _)⟩
        · cases e
      | _ => cases e
    | _ => cases e
def negD : D → Option D
  | .int i => some (.int (-i))
  | _ => none
theorem d_neg (he : DE c X W a f) : DE c X W (.UnaryOp .USub a pos) (mMap f negD) := by
  obtain ⟨te, pe, se⟩ := he
  refine ⟨_, pe_un un_neg pe, sem_un (fun O H x v d al e q Q k => ?_) se⟩
  cases v with
  | int i =>
    have e := Option.some.inj (show some (PyData.int (-i)) = some d from e)
    subst e
    exact ⟨i, dp_int q, k _ H (Grow.refl _ _) (.int _)⟩
  | _ => cases e
/-- scalars -/
def scalOf : Value → Option (V × D)
  | .none => some (.non, .none)
  | .bool b => some (.bl b, .bool b)
  | .int i _ => some (.int i, .int i)
  | .str x _ => some (.str x, .str x)
  | _ => none
def scalsOf : List Value → Option (List V × List D)
  | [] => some ([], [])
  | v :: r => match scalOf v, scalsOf r with
    | some p, some q => some (p.1 :: q.1, p.2 :: q.2)
    | _, _ => none
theorem scal_ok {K : PySem.W.Frag} {H : Hp} {v : Value} {p : V × D} (h : scalOf v = some p) : RelV p.1 v ∧ Dp K H p.1 p.2 := by
  unfold scalOf at h
  split at h
  · cases h; exact ⟨rfl, .non⟩
  · cases h; exact ⟨rfl, .bl _⟩
  · cases h; exact ⟨⟨_, rfl⟩, .int _⟩
  · cases h; exact ⟨⟨_, rfl⟩, .str _⟩
  · cases h
theorem scals_ok {K : PySem.W.Frag} {H : Hp} : ∀ {vs : List Value} {p : List V × List D}, scalsOf vs = some p → Vals p.1 vs ∧ DpAll K H p.1 p.2
  | [], p, h => by cases h; exact ⟨.nil, .nil⟩
  | v :: r, p, h => by
    unfold scalsOf at h
    cases e1 : scalOf v with
    | none => rw [e1] at h; cases h
    | some q1 =>
      cases e2 : scalsOf r with
      | none => rw [e1, e2] at h; cases h
      | some q2 =>
        rw [e1, e2] at h
        cases h
        obtain ⟨a1, a2⟩ := scal_ok (K := K) (H := H) e1
        obtain ⟨b1, b2⟩ := scals_ok (K := K) (H := H) e2
        exact ⟨.cons a1 b1, .cons a2 b2⟩
/-- a tuple of scalars that the module holds -/
def GlobT (K : PySem.W.Frag) (mg : Str → Option Value) (x : Str) (d : D) : Prop := ∃ a : Addr, mg x = some (.ref a) ∧ ∀ H, Dp K H (.ref a) d
theorem globT_mk {K : PySem.W.Frag} {mg : Str → Option Value} {x : Str} {a : Addr} {od : Option Addr} {its : Array Value} {n : Nat} {sl : Array (Option Value)} {p : List V × List D} (hm : mg x = some (.ref a)) (hl : K.lookup a = some ⟨.type "tuple", od, .seq its n, sl⟩) (hs : its.size ≤ 100000) (h : scalsOf its.toList = some p) : GlobT K mg x (.tuple p.2) := by
  refine ⟨a, hm, fun H => ?_⟩
  obtain ⟨h1, h2⟩ := scals_ok (K := K) (H := H) h
  exact .tup (.inr ⟨_, its, n, hl, rfl, rfl, small_line hs, h1⟩) h2
theorem d_globT {x : Str} {d : D} (h : GlobT X.K X.mg x d) (hK : c.K = X.K := by rfl) (hg : Gl X x := by rfl) (hd : (x == ("__debug__" : Str)) = false := by decide) : DE c X W (.Name x pos) (mC d) := by
  obtain ⟨a, hm, q⟩ := h
  exact d_glob (v := .ref a) hm rfl (fun H => hK ▸ q H) hg hd
end
end DL

/-! in over tuples and lists of any data; startswith -/
namespace DL
open PySem PySem.Spec L2
section
variable {c : Cf} {X : Cx} {W : WX} {a b : Expr} {f g : M D} {fs : M (List D)} {pos : Pos}
def inDeep (d e : D) : Option D := match items e with
  | some ds => if (SeqAt.shaped d && SeqAt.shaped e) = true then some (.bool (ds.any fun z => PyData.eqv z d)) else none
  | none => none
def inX (d e : D) : Option D := match inD d e with
  | some r => some r
  | none => inDeep d e
def rInT (K : PySem.W.Frag) : R2 := fun x y H Q => ∃ d ds, Dp K H x d ∧ (Dp K H y (.list ds) ∧ SeqAt.shaped (.list ds) = true ∨ Dp K H y (.tuple ds) ∧ SeqAt.shaped (.tuple ds) = true) ∧ SeqAt.shaped d = true ∧ Q (.bl (ds.any fun z => PyData.eqv z d)) H
theorem op_inT (hu : X.A.units + 65 < cLine) : OpR X (compareOp .In) (rInT X.K) := by
  intro pins s σ H x y v u Q I rx ry h
  obtain ⟨d, ds, hd, he, sd, q⟩ := h
  obtain ⟨as, r1⟩ := Dp.reads I d x v hd rx
  rcases he with ⟨he, se⟩ | ⟨he, se⟩
  · obtain ⟨bs, r2⟩ := Dp.reads I (.list ds) y u he ry
    exact SeqAt.in_list_reads r2 r1 (SeqAt.canLay_of_shaped se) (SeqAt.canLay_of_shaped sd) (PyProof.Rows.room_in_shaped sd hu) ⟨.bl _, H, I, rfl, q⟩
  · obtain ⟨bs, r2⟩ := Dp.reads I (.tuple ds) y u he ry
    exact SeqAt.in_tuple_reads r2 r1 (SeqAt.canLay_of_shaped se) (SeqAt.canLay_of_shaped sd) (PyProof.Rows.room_in_shaped sd hu) ⟨.bl _, H, I, rfl, q⟩
theorem op_inX {k : Nat} (hr : Room k X.A) : OpR X (compareOp .In) (fun x y H Q => rIn X.K false x y H Q ∨ rInT X.K x y H Q) := OpR.or op_in_seq (op_inT (by have := hr.un; omega))
theorem o_inX (hK : c.K = X.K) : Oq2 c (fun x y H Q => rIn X.K false x y H Q ∨ rInT X.K x y H Q) inX := by
  intro O H x y v w d al e q1 q2 Q k
  unfold inX at e
  cases z : inD v w with
  | some r =>
    rw [z] at e
    have e := Option.some.inj e
    subst e
    exact .inl (o_in hK O H x y v w _ al z q1 q2 Q k)
  | none =>
    rw [z] at e
    have e : inDeep v w = some d := e
    cases w with
    | list ds =>
      have e : (if (SeqAt.shaped v && SeqAt.shaped (.list ds)) = true then some (PyData.bool (ds.any fun z => PyData.eqv z v)) else none) = some d := e
      split at e
      · rename_i hh
        have e := Option.some.inj e
        subst e
        obtain ⟨h1, h2⟩ := Bool.and_eq_true_iff.mp hh
        exact .inr ⟨_, ds, hK ▸ dq_dp q1, .inl ⟨hK ▸ dq_dp q2, h2⟩, h1, k _ H (Grow.refl _ _) (.bl _)⟩
      · cases e
    | tuple ds =>
      have e : (if (SeqAt.shaped v && SeqAt.shaped (.tuple ds)) = true then some (PyData.bool (ds.any fun z => PyData.eqv z v)) else none) = some d := e
      split at e
      · rename_i hh
        have e := Option.some.inj e
        subst e
        obtain ⟨h1, h2⟩ := Bool.and_eq_true_iff.mp hh
        exact .inr ⟨_, ds, hK ▸ dq_dp q1, .inr ⟨hK ▸ dq_dp q2, h2⟩, h1, k _ H (Grow.refl _ _) (.bl _)⟩
      · cases e
    | _ => cases e
end
end DL

/-! startswith; t[::-1] -/
namespace HT
open PySem PySem.Spec PyProof.Rows L2
section
variable {prog : Program} {w : World} {A : Around} {E : Value → Shared → Prop} {s : Shared}
theorem rev_pick (xs : Array Value) : ((List.range xs.size).filterMap fun (m : Nat) => xs[((xs.size : Int) - 1 + (m : Int) * (-1)).toNat]?).toArray = xs.toList.reverse.toArray := by
  have h := PySem.W.krv_pick xs
  unfold slicePick at h
  rw [PySem.W.krv_bounds] at h
  have h : ((sliceRange ((xs.size : Int) - 1) (-1) (-1)).filterMap (xs[·]?)).toArray = xs.toList.reverse.toArray := h
  rw [PySem.W.krv_sliceRange, List.filterMap_map] at h
  rw [← h]
  congr 1
  refine congrArg (fun z => List.filterMap z _) ?_
  funext m
  show xs[((xs.size : Int) - 1 + (m : Int) * (-1)).toNat]? = xs[xs.size - 1 - m]?
  have e : ((xs.size : Int) - 1 + (m : Int) * (-1)).toNat = xs.size - 1 - m := by omega
  rw [e]
theorem sliceApplied_rev {sl : Addr} {vs : Value} {n : Nat} {Q : Int × Int × Nat → Shared → Prop} (hs : s.heap.IsSliceOf sl .none .none vs) (ps : IsPart vs (some (-1)))
    (h : Q ((n : Int) - 1, -1, n) s) : wpAny (model prog w) A (Builtin.Slice.sliceApplied (.ref sl) (pure (n : Int))) Q E s := by
  obtain ⟨os, hos, hcs, hds⟩ := id hs
  unfold Builtin.Slice.sliceApplied Builtin.Slice.sliceFields
  refine wpAny_bind (wpAny_bind (wpAny_field hos hds (x := .none) rfl (wpAny_bind (wpAny_field hos hds (x := .none) rfl (wpAny_bind (wpAny_field hos hds (x := vs) rfl (wpAny_pure ?_)))))))
  refine wpAny_bind (slicePart_ ps ?_)
  show wpAny _ _ (if ((-1 : Int) == 0) = true then _ else _) _ _ s
  rw [if_neg (by decide)]
  refine wpAny_bind (slicePart_none (wpAny_bind (slicePart_none (wpAny_bind (wpAny_pure ?_)))))
  show wpAny _ _ (pure ((n : Int) - 1, (-1 : Int), Builtin.Slice.slicePlaces ((n : Int) - 1) (-1) (-1))) _ _ s
  have e : Builtin.Slice.slicePlaces ((n : Int) - 1) (-1) (-1) = n := by
    unfold Builtin.Slice.slicePlaces
    rw [if_neg (by decide)]
    by_cases hz : (n : Int) - 1 > -1
    · rw [if_pos hz, show (- -1 : Int) = 1 by decide, Int.ediv_one]
      omega
    · rw [if_neg hz]
      omega
  rw [e]
  exact wpAny_pure h
theorem getItem_tuple_rev {t sl : Addr} {items : Array Value} {vs : Value} {Q : Value → Shared → Prop} (ht : IsTup s.heap t items) (hs : s.heap.IsSliceOf sl .none .none vs) (ps : IsPart vs (some (-1)))
    (h : Q (.ref s.heap.objs.size) { s with heap := s.heap.push { cls := .type "tuple", data := .seq items.toList.reverse.toArray } })
    (hsz : items.size ≤ sizeLine) : wpAny (model prog w) A (getItem (.ref t) (.ref sl)) Q E s := by
  have htake : sizeOk (.seq items.toList.reverse.toArray) := by
    show items.toList.reverse.toArray.size ≤ sizeLine
    rw [List.size_toArray, List.length_reverse, Array.length_toList]
    omega
  obtain ⟨os, hos, hcs, hds⟩ := id hs
  have hTs : s.TypeIs (.ref sl) "slice" := ⟨os, hos, hcs⟩
  unfold getItem
  try with_reducible refine wpAny_holding ?_
  first | refine wpAny_bind (wpAny_pure ?_) | skip
  refine wpAny_bind (wpAny_sequenceKey ht.typeIs (by decide) ?_)
  refine wpAny_bind (wpAny_callSpecial?_slot (name := Str.ofString "__getitem__") ht.typeIs PyProof.Rows.slot_tuple_getitem
    (wpAny_call_entry PyProof.Rows.slot_tuple_getitem ht.typeIs entry_tuple_getitem ?_ (args_tuple_getitem _ _)))
  show wpAny _ _ (Builtin.Tuple.tupleItemsOf (.ref t) >>= _) _ _ s
  refine wpAny_bind (tupleItemsOf_ ht ?_)
  refine wpAny_bind (wpAny_typeOf hTs ?_)
  rw [if_pos (by decide)]
  refine wpAny_bind (sliceApplied_rev hs ps ?_)
  have hno : ¬ ((((items.size : Int) - 1) == 0 && (-1 : Int) == 1 && items.size == items.size) = true) := by
    intro q
    rw [Bool.and_eq_true, Bool.and_eq_true] at q
    exact absurd q.1.2 (by decide)
  show wpAny _ _ (if (((items.size : Int) - 1) == 0 && (-1 : Int) == 1 && items.size == items.size) = true then _ else _) _ _ s
  rw [if_neg hno, rev_pick]
  first
    | exact wpAny_bind (m := Builtin.Tuple.tupleExact _) (wpAny_newObj_type (wpAny_pure ⟨_, rfl, wpAny_pure h⟩) htake)
    | exact wpAny_bind (m := Builtin.Tuple.tupleExact _) (wpAny_newObj_type (wpAny_bind (wpAny_pure (wpAny_pure ⟨_, rfl, wpAny_pure h⟩))) htake)
    | exact wpAny_bind (wpAny_bind (m := Builtin.Tuple.tupleExact _) (wpAny_newObj_type (wpAny_pure (wpAny_pure ⟨_, rfl, wpAny_pure h⟩)) htake))
    | exact wpAny_bind (wpAny_bind (m := Builtin.Tuple.tupleExact _) (wpAny_newObj_type (wpAny_pure ⟨_, rfl, wpAny_pure h⟩) htake))
end
end HT
namespace DL
open PySem PySem.Spec L2
section
variable {c : Cf} {X : Cx} {W : WX} {a b : Expr} {f g : M D} {fs : M (List D)} {pos : Pos}
/-! ### x.startswith(y) -/
def swD (d e : D) : Option D := match d, e with
  | .str x, .str y => some (.bool (Txt.startswith x y))
  | _, _ => none
def mSw (f g : M D) : M D := fun s => (f s).bind fun d s1 => match d with
  | .str x => (g s1).bind fun e s2 => lift (swD (.str x) e) s2
  | _ => .bad
theorem d_startswith {apos : Pos} (he : DE c X W a f) (hb : DE c X W b g)
    (hs : starEach [b] X.env = [(false, eval b X.env)] := by rfl) (hbase : attributeBase a "startswith" X.env (eval a X.env) = eval a X.env := by rfl) (hline : (apos.endLine == pos.line) = true := by rfl) :
    DE c X W (.Call (.Attribute a "startswith" apos) [b] [] pos) (mSw f g) := by
  obtain ⟨te, pe, se⟩ := he
  obtain ⟨tf, pf, sf⟩ := hb
  refine ⟨_, pe_m1 PySem.F.slot_str_startswith PySem.F.type_str_startswith mt_startswith pe pf hs hbase hline, ?_⟩
  intro O A σ H s r Q w
  refine se O A σ H s r _ (Wp.mono (Wp.bind w) ?_)
  intro d s1 H1 _ f1 r1 w1 v q
  cases d with
  | str x =>
    have e := dp_str q
    subst e
    refine ⟨⟨x, rfl⟩, sf O A σ H1 s1 r1 _ (Wp.mono (Wp.bind w1) ?_)⟩
    intro e s2 H2 _ f2 r2 w2 u q2
    cases e with
    | str y =>
      have e := dp_str q2
      subst e
      exact ⟨x, y, rfl, rfl, w2 H2 (Stp.refl _ _) r2 _ (.bl _)⟩
    | none => exact w2.elim
    | bool _ => exact w2.elim
    | int _ => exact w2.elim
    | list _ => exact w2.elim
    | tuple _ => exact w2.elim
    | dict _ => exact w2.elim
  | none => exact w1.elim
  | bool _ => exact w1.elim
  | int _ => exact w1.elim
  | list _ => exact w1.elim
  | tuple _ => exact w1.elim
  | dict _ => exact w1.elim
/-! ### t[::-1] -/
def rvD (d : D) : Option D := match d with
  | .tuple xs => some (.tuple xs.reverse)
  | _ => none
def mRev (f : M D) : M D := fun s => (f s).bind fun d s1 => lift (rvD d) s1
open PyProof.Rows in
def tRevT (K : PySem.W.Frag) (te : TE) : TE := fun σ H Q => te σ H fun x H1 => ∃ a xs, x = .ref a ∧ SqT K H1 a xs ∧ ∀ p, H1 p = none → Q (.ref p) (upd H1 p (.tup xs.reverse))
open PyProof.Rows in
theorem pe_revT {e : Expr} {te : TE} {k : Nat} {p1 p2 p3 pos : Pos} (he : PE X e te) : PE X (.Subscript e (.Slice none none (some (.UnaryOp .USub (.Constant (.int 1) k p1) p2)) p3) pos) (tRevT X.K te) := by
  refine ⟨fun pins s σ H Q I h => ?_⟩
  refine PyProof.Rows.Subscript_ (thn (he.run pins s σ H _ I h) fun v s1 ⟨x, H1, I1, r1, q1⟩ => ?_)
  obtain ⟨a, xs, ex, hx, q⟩ := q1
  subst ex
  cases r1
  have hst : PO X (some (.UnaryOp .USub (.Constant (.int 1) k p1) p2)) (tPart (tUn (rU fun i => .int (-i)) (tC (.int 1)))) := po_some (pe_un un_neg pe_int)
  refine wpAny_Slice (thn (po_none.run pins s1 σ H1 (fun o H2 => o = none ∧ H2 = H1) I1 ⟨rfl, rfl⟩) fun vl s2 ⟨l, H2, I2, pl, el, e2⟩ => ?_)
  subst el e2
  refine thn (po_none.run pins s2 σ H2 (fun o H3 => o = none ∧ H3 = H2) I2 ⟨rfl, rfl⟩) fun vu s3 ⟨u, H3, I3, pu, eu, e3⟩ => ?_
  subst eu e3
  refine thn (hst.run pins s3 σ H3 (fun o H4 => o = some (-1) ∧ H4 = H3) I3 ⟨1, rfl, -1, rfl, rfl, rfl⟩) fun vs s4 ⟨o, H4, I4, ps, eo, e4⟩ => ?_
  subst eo e4
  cases pl
  cases pu
  have I5 : Inv X pins σ H4 { s4 with heap := s4.heap.push { cls := .type "slice", data := .fields #[.none, .none, vs] } } := I4.kept (t' := s4.toks) fun b ob q => Heap.get?_push_of_some _ q
  obtain ⟨its, r, ht, hz⟩ := I5.tuple hx
  have hlen := r.length
  show wpAny (model X.prog X.w) X.A (subscriptTail e (.Slice none none (some (.UnaryOp .USub (.Constant (.int 1) k p1) p2)) p3) (.ref a) (.ref s4.heap.objs.size)) (EP X pins σ Q) X.xe { s4 with heap := s4.heap.push { cls := .type "slice", data := .fields #[.none, .none, vs] } }
  refine tail_any (ops := [.ref a, .ref s4.heap.objs.size]) ht.typeIs (PyProof.Rows.slot_tuple_getitem.lookup) ?_ (by with_unfolding_all rfl)
  refine HT.getItem_tuple_rev ht (Heap.IsSliceOf.new _ .none .none vs) ps ?_ (by rw [List.size_toArray]; omega)
  refine ⟨.ref _, _, I5.laid (t' := s4.toks) (o := .tup xs.reverse) (fun b ob q => Heap.get?_push_of_some _ q) (Nat.le_refl _) ?_, rfl, q _ (I5.hok.fresh (Nat.le_refl _))⟩
  exact ⟨by rw [List.length_reverse]; exact hz, _, r.reverse, IsTup.new _ _⟩
theorem d_rev {k : Nat} {p1 p2 p3 : Pos} (he : DE c X W a f) (hK : c.K = X.K := by rfl) : DE c X W (.Subscript a (.Slice none none (some (.UnaryOp .USub (.Constant (.int 1) k p1) p2)) p3) pos) (mRev f) := by
  obtain ⟨te, pe, se⟩ := he
  refine ⟨_, pe_revT pe, ?_⟩
  intro O A σ H s r Q w
  refine se O A σ H s r _ (Wp.mono (Wp.bind w) ?_)
  intro d s1 H1 _ f1 r1 w1 v q
  cases d with
  | tuple ds =>
    obtain ⟨p, xs, rfl, h1, h2⟩ := dp_tup q
    exact ⟨p, xs, rfl, hK ▸ (Sub.cut O H1).sqt h1, fun y hy => w1 _ ((Grow.new (c := c) hy).stp A) (r1.grow (Grow.new hy)) _ (dp_newT hy (r1.fresh hy) (dpa_rev h2))⟩
  | none => exact w1.elim
  | bool _ => exact w1.elim
  | int _ => exact w1.elim
  | str _ => exact w1.elim
  | list _ => exact w1.elim
  | dict _ => exact w1.elim
end
end DL

namespace DL
open PySem PySem.Spec L2
/-! ### typed documents and selectors -/
inductive Kd where
  | a | b | c | d | z
  deriving DecidableEq, Repr
inductive Mk where
  | w | x | y
  deriving DecidableEq, Repr
def Kd.s : Kd → Str
  | .a => "a" | .b => "b" | .c => "c" | .d => "d" | .z => "z"
def Mk.s : Mk → Str
  | .w => "w" | .x => "x" | .y => "y"
inductive Tst where
  | kind (k : Kd)
  | mark (m : Mk)
  deriving DecidableEq, Repr
inductive Lk where
  | child | inside | next | after
  deriving DecidableEq, Repr
def Lk.s : Lk → Str
  | .child => "child" | .inside => "inside" | .next => "next" | .after => "after"
structure Part where
  k : Option Kd
  m : List Mk
  n : List Tst
  s : Nat
  f : Nat
  deriving DecidableEq, Repr
abbrev nat (k : Nat) : D := .int (k : Int)
abbrev kD (k : Kd) : D := .str k.s
abbrev mD (m : Mk) : D := .str m.s
abbrev msD (ms : List Mk) : D := .tuple (ms.map mD)
abbrev lD (l : Lk) : D := .str l.s
def okD : Option Kd → D
  | none => .none
  | some k => kD k
def tD : Tst → D
  | .kind k => .tuple [.str "kind", kD k]
  | .mark m => .tuple [.str "mark", mD m]
def pD (p : Part) : D := .tuple [okD p.k, msD p.m, .tuple (p.n.map tD), nat p.s, nat p.f]
/-- parts and links -/
structure Sel where
  ps : List Part
  ls : List Lk
  deriving DecidableEq, Repr
def sD (s : Sel) : D := .tuple [.tuple (s.ps.map pD), .tuple (s.ls.map lD)]
def Sel.ok (s : Sel) : Prop := s.ls.length + 1 = s.ps.length
inductive El where
  | mk (k : Kd) (m : List Mk) (c : List El)
def El.k : El → Kd | .mk k _ _ => k
def El.m : El → List Mk | .mk _ m _ => m
def El.c : El → List El | .mk _ _ c => c
mutual
def eD : El → D
  | .mk k m c => .tuple [kD k, msD m, .tuple (eDs c)]
def eDs : List El → List D
  | [] => []
  | e :: r => eD e :: eDs r
end
theorem eDs_eq : ∀ c : List El, eDs c = c.map eD
  | [] => rfl
  | e :: r => by rw [eDs, eDs_eq r, List.map_cons]
theorem eD_eq (e : El) : eD e = .tuple [kD e.k, msD e.m, .tuple (e.c.map eD)] := by
  cases e with
  | mk k m c => rw [eD, eDs_eq]; rfl
mutual
def El.sz : El → Nat
  | .mk _ _ c => szs c + 1
def szs : List El → Nat
  | [] => 0
  | e :: r => e.sz + szs r
end
mutual
def El.dep : El → Nat
  | .mk _ _ c => deps c + 1
def deps : List El → Nat
  | [] => 0
  | e :: r => max e.dep (deps r)
end
theorem deps_le {n : Nat} : ∀ {c : List El}, deps c ≤ n ↔ ∀ e ∈ c, e.dep ≤ n
  | [] => by simp [deps]
  | e :: r => by
    rw [deps, Nat.max_le, deps_le (c := r)]
    simp
theorem El.dep_eq (e : El) : e.dep = deps e.c + 1 := by cases e; rfl
theorem El.sz_eq (e : El) : e.sz = szs e.c + 1 := by cases e; rfl
mutual
def places : El → List (List Nat)
  | .mk _ _ c => [] :: placesF 0 c
def placesF : Nat → List El → List (List Nat)
  | _, [] => []
  | i, e :: r => (places e).map (i :: ·) ++ placesF (i + 1) r
end
theorem places_eq' (e : El) : places e = [] :: placesF 0 e.c := by cases e; rfl
mutual
theorem places_len : ∀ e : El, (places e).length = e.sz
  | .mk _ _ c => by rw [places, El.sz, List.length_cons, placesF_len 0 c]
theorem placesF_len : ∀ (i : Nat) (c : List El), (placesF i c).length = szs c
  | _, [] => rfl
  | i, e :: r => by rw [placesF, szs, List.length_append, List.length_map, places_len e, placesF_len (i + 1) r]
end
/-- the element at a place -/
def El.at : El → List Nat → Option El
  | e, [] => some e
  | .mk _ _ c, i :: p => match c[i]? with
    | some e => e.at p
    | none => none
theorem at_nil (e : El) : e.at [] = some e := by cases e; rfl
theorem at_cons (e : El) (i : Nat) (p : List Nat) : e.at (i :: p) = (e.c[i]?).bind (·.at p) := by
  cases e with
  | mk k m c => rw [El.at, El.c]; cases c[i]? <;> rfl
theorem at_app : ∀ (p q : List Nat) (e : El), e.at (p ++ q) = (e.at p).bind (·.at q)
  | [], q, e => by rw [List.nil_append, at_nil]; rfl
  | i :: p, q, e => by
    rw [List.cons_append, at_cons, at_cons, Option.bind_assoc]
    congr 1
    funext x
    exact at_app p q x
def plD (p : List Nat) : D := .tuple (p.map nat)
def numOf (p : List Nat) : Nat := match p.getLast? with
  | some i => i + 1
  | none => 1
/-! ### what a part asks -/
def fitsN (s f n : Nat) : Bool := if s = 0 then n == f else decide (f ≤ n) && (n - f) % s == 0
def tst (k : Kd) (ms : List Mk) : Tst → Bool
  | .kind q => q == k
  | .mark m => ms.contains m
def kOk : Option Kd → Kd → Bool
  | none, _ => true
  | some q, k => q == k
def fits (p : Part) (k : Kd) (ms : List Mk) (n : Nat) : Bool := kOk p.k k && (!(p.m.any fun m => !ms.contains m) && (!p.n.any (tst k ms) && fitsN p.s p.f n))
/-! ### operators on the names -/
theorem Kd.inj : ∀ a b : Kd, (a.s == b.s) = (a == b) := by intro a b; cases a <;> cases b <;> decide +kernel
theorem Mk.inj : ∀ a b : Mk, (a.s == b.s) = (a == b) := by intro a b; cases a <;> cases b <;> decide +kernel
theorem Lk.inj : ∀ a b : Lk, (a.s == b.s) = (a == b) := by intro a b; cases a <;> cases b <;> decide +kernel
theorem neD_s (i j : Str) : neD (.str i) (.str j) = some (.bool (!(i == j))) := by simp only [neD, scalD, true_or, if_true, PyData.eqv]
theorem eqD_k (a b : Kd) : eqD (kD a) (kD b) = some (.bool (a == b)) := by rw [eqD_s, Kd.inj]
theorem neD_k (a b : Kd) : neD (kD a) (kD b) = some (.bool (!(a == b))) := by rw [neD_s, Kd.inj]
theorem L_c (l : Lk) : (l.s == "child") = (l == .child) := by cases l <;> decide +kernel
theorem L_i (l : Lk) : (l.s == "inside") = (l == .inside) := by cases l <;> decide +kernel
theorem L_n (l : Lk) : (l.s == "next") = (l == .next) := by cases l <;> decide +kernel
theorem L_a (l : Lk) : (l.s == "after") = (l == .after) := by cases l <;> decide +kernel
theorem L_cc : (Lk.child == Lk.child) = true := rfl
theorem L_ic : (Lk.inside == Lk.child) = false := rfl
theorem L_ii : (Lk.inside == Lk.inside) = true := rfl
theorem L_nc : (Lk.next == Lk.child) = false := rfl
theorem L_ni : (Lk.next == Lk.inside) = false := rfl
theorem L_nn : (Lk.next == Lk.next) = true := rfl
theorem L_ac : (Lk.after == Lk.child) = false := rfl
theorem L_ai : (Lk.after == Lk.inside) = false := rfl
theorem L_an : (Lk.after == Lk.next) = false := rfl
theorem L_aa : (Lk.after == Lk.after) = true := rfl
theorem eqD_kk : eqD (.str "kind") (.str "kind") = some (.bool true) := by rw [eqD_s]; rfl
theorem s_km : (("kind" : Str) == "mark") = false := by decide +kernel
theorem s_mk : (("mark" : Str) == "kind") = false := by decide +kernel
theorem eqD_km : eqD (.str "kind") (.str "mark") = some (.bool false) := by rw [eqD_s, s_km]
theorem eqD_mk : eqD (.str "mark") (.str "kind") = some (.bool false) := by rw [eqD_s, s_mk]
theorem eqD_mm : eqD (.str "mark") (.str "mark") = some (.bool true) := by rw [eqD_s]; rfl
theorem eqv_m (a b : Mk) : PyData.eqv (mD a) (mD b) = (a == b) := by rw [← Mk.inj]; rfl
theorem eqv_k (a b : Kd) : PyData.eqv (kD a) (kD b) = (a == b) := by rw [← Kd.inj]; rfl
theorem flat_m (ms : List Mk) : (ms.map mD).all flatD = true := by
  rw [List.all_map]
  exact List.all_eq_true.mpr fun _ _ => rfl
theorem any_m (ms : List Mk) (m : Mk) : (ms.map mD).any (fun z => PyData.eqv z (mD m)) = ms.contains m := by
  rw [List.any_map]
  induction ms with
  | nil => rfl
  | cons a r ih =>
    rw [List.any_cons, ih, List.contains_cons]
    show (PyData.eqv (mD a) (mD m) || _) = _
    rw [eqv_m]
    congr 1
    cases a <;> cases m <;> rfl
theorem inD_m (ms : List Mk) (m : Mk) : inD (mD m) (msD ms) = some (.bool (ms.contains m)) := by
  show (if flatD (mD m) = true ∧ (ms.map mD).all flatD = true then some (PyData.bool ((ms.map mD).any fun z => PyData.eqv z (mD m))) else none) = _
  rw [if_pos ⟨rfl, flat_m ms⟩, any_m]
theorem notInD_m (ms : List Mk) (m : Mk) : notInD (mD m) (msD ms) = some (.bool (!ms.contains m)) := by
  show (if flatD (mD m) = true ∧ (ms.map mD).all flatD = true then some (PyData.bool (!(ms.map mD).any fun z => PyData.eqv z (mD m))) else none) = _
  rw [if_pos ⟨rfl, flat_m ms⟩, any_m]
theorem notNone_k (k : Option Kd) : notNone (okD k) .none = some (.bool k.isSome) := by cases k <;> rfl
/-! ### places, indices -/
theorem ix_nat {xs : List D} {k : Nat} {d : D} (h : xs[k]? = some d) : ixD (.tuple xs) (nat k) = some d := ixD_t h
theorem ixl_nat {xs : List D} {k : Nat} {d : D} (h : xs[k]? = some d) : ixD (.list xs) (nat k) = some d := ixD_l h
theorem ix_last (xs : List D) (d : D) : ixD (.tuple (xs ++ [d])) (.int (-1)) = some d := by
  show atI (xs ++ [d]) (-1) = some d
  unfold atI ixN
  rw [if_neg (by decide), if_pos (by rw [List.length_append, List.length_singleton]; omega)]
  show (xs ++ [d])[((-1 : Int) + ((xs ++ [d]).length : Nat)).toNat]? = some d
  rw [List.length_append, List.length_singleton, show ((-1 : Int) + ((xs.length + 1 : Nat) : Int)).toNat = xs.length by omega]
  simp
theorem ixl_last (xs : List D) (d : D) : ixD (.list (xs ++ [d])) (.int (-1)) = some d := ix_last xs d
theorem cut_init (xs : List D) (d : D) : cutD (xs ++ [d]) none (some (-1)) = xs := by
  have e : HT.sIx (xs ++ [d]).length (xs ++ [d]).length (some (-1)) = xs.length := by
    show (if (-1 : Int) < 0 then ((-1 : Int) + ((xs ++ [d]).length : Int)).toNat else min (-1 : Int).toNat (xs ++ [d]).length) = xs.length
    rw [if_pos (by decide), List.length_append, List.length_singleton]
    omega
  unfold cutD
  rw [HT.sIx_none, Nat.sub_zero, List.drop_zero, e]
  simp
theorem sl_init (xs : List D) (d : D) : slD (.tuple (xs ++ [d])) none (some (-1)) = some (.tuple xs) := by
  show some (PyData.tuple (cutD (xs ++ [d]) none (some (-1)))) = _
  rw [cut_init]
theorem cut_to (xs : List D) (k : Nat) : cutD xs none (some (k : Int)) = xs.take k := by
  unfold cutD
  rw [HT.sIx_none, Nat.sub_zero, List.drop_zero, HT.sIx_nat]
  rw [← List.take_take, List.take_length]
theorem cut_from (xs : List D) (k : Nat) : cutD xs (some (k : Int)) none = xs.drop k := by
  unfold cutD
  rw [HT.sIx_none, HT.sIx_nat]
  by_cases h : k ≤ xs.length
  · rw [Nat.min_eq_left h, List.take_of_length_le (by rw [List.length_drop]; omega)]
  · rw [Nat.min_eq_right (by omega), List.drop_length, List.drop_of_length_le (by omega), List.take_nil]
theorem slt_to (xs : List D) (k : Nat) : slD (.tuple xs) none (some (k : Int)) = some (.tuple (xs.take k)) := by
  show some (PyData.tuple (cutD xs none (some (k : Int)))) = _
  rw [cut_to]
theorem sll_to (xs : List D) (k : Nat) : slD (.list xs) none (some (k : Int)) = some (.list (xs.take k)) := by
  show some (PyData.list (cutD xs none (some (k : Int)))) = _
  rw [cut_to]
theorem slt_from (xs : List D) (k : Nat) : slD (.tuple xs) (some (k : Int)) none = some (.tuple (xs.drop k)) := by
  show some (PyData.tuple (cutD xs (some (k : Int)) none)) = _
  rw [cut_from]
theorem sll_from (xs : List D) (k : Nat) : slD (.list xs) (some (k : Int)) none = some (.list (xs.drop k)) := by
  show some (PyData.list (cutD xs (some (k : Int)) none)) = _
  rw [cut_from]
theorem eD_0 (e : El) : ixD (eD e) (.int 0) = some (kD e.k) := by rw [eD_eq]; exact ix_0 _ _
theorem eD_1 (e : El) : ixD (eD e) (.int 1) = some (msD e.m) := by rw [eD_eq]; exact ix_1 _ _ _
theorem eD_2 (e : El) : ixD (eD e) (.int 2) = some (.tuple (e.c.map eD)) := by rw [eD_eq]; exact ix_2 _ _ _ _
theorem pD_0 (p : Part) : ixD (pD p) (.int 0) = some (okD p.k) := ix_0 _ _
theorem pD_1 (p : Part) : ixD (pD p) (.int 1) = some (msD p.m) := ix_1 _ _ _
theorem pD_2 (p : Part) : ixD (pD p) (.int 2) = some (.tuple (p.n.map tD)) := ix_2 _ _ _ _
theorem pD_3 (p : Part) : ixD (pD p) (.int 3) = some (nat p.s) := ix_nat (k := 3) rfl
theorem pD_4 (p : Part) : ixD (pD p) (.int 4) = some (nat p.f) := ix_nat (k := 4) rfl
theorem sD_0 (s : Sel) : ixD (sD s) (.int 0) = some (.tuple (s.ps.map pD)) := ix_0 _ _
theorem sD_1 (s : Sel) : ixD (sD s) (.int 1) = some (.tuple (s.ls.map lD)) := ix_1 _ _ _
theorem negD_i (i : Int) : negD (.int i) = some (.int (-i)) := rfl
theorem mT_T (b : Bool) : asB (.bool b) = some b := rfl
theorem two (b : Bool) : b = true ∨ b = false := by cases b <;> simp
theorem mkT_sm {xs : List D} (h : xs.length ≤ 100000) : mkT xs = some (.tuple xs) := mkT_s (small_line h)
theorem mkL_sm {xs : List D} (h : xs.length ≤ 100000) : mkL xs = some (.list xs) := mkL_s (small_line h)
theorem addT_sm {xs ys : List D} (h : xs.length + ys.length ≤ 100000) : addD (.tuple xs) (.tuple ys) = some (.tuple (xs ++ ys)) := addD_t (small_line h)
theorem addL_sm {xs ys : List D} (h : xs.length + ys.length ≤ 100000) : addD (.list xs) (.list ys) = some (.list (xs ++ ys)) := addD_l (small_line h)
def NO (z : Sl) : Prop := match z with
  | .own _ => False
  | _ => True
theorem no_un : NO .un := trivial
theorem no_dat (d : D) : NO (.dat d) := trivial
/-- a slot that holds no owned list can be stored to -/
def putS1 (z : Sl) (r : Option Sts) : Option Sts := match z with
  | .own _ => none
  | _ => r
theorem seq_nx {g h : G} {s s1 : Sts} (e : g s = .nx s1) : sSeq g h s = h s1 := by
  unfold sSeq
  rw [e]
  rfl
theorem seq_ifr {g h : G} {s : Sts} {b : Bool} {v : D} (e : g s = if b = true then .nx s else .ret v s) : sSeq g h s = if b = true then h s else .ret v s := by
  unfold sSeq
  rw [e]
  cases b <;> rfl
theorem run_x {n : Nat} {g : G} {ss st s : Sts} {d : D} (hg : g st = .ret d s) (ho : outs ss s = ss) (hs : ss ++ List.replicate (n - ss.length) .un = st := by rfl) : run n g ss = .ok d ss := run_ret hg hs ho
theorem run_xe {n : Nat} {g : G} {ss st s : Sts} {x : Str} (hg : g st = .err x s) (ho : outs ss s = ss) (hs : ss ++ List.replicate (n - ss.length) .un = st := by rfl) : run n g ss = .err x ss := run_err hg hs ho
theorem run_of {n : Nat} {g : G} {ss st : Sts} {d : D} (hg : ∃ s, g st = .ret d s ∧ outs ss s = ss) (hs : ss ++ List.replicate (n - ss.length) .un = st := by rfl) : run n g ss = .ok d ss := by
  obtain ⟨s, h1, h2⟩ := hg
  exact run_ret h1 hs h2
theorem run_erof {n : Nat} {g : G} {ss st : Sts} {x : Str} (hg : ∃ s, g st = .err x s ∧ outs ss s = ss) (hs : ss ++ List.replicate (n - ss.length) .un = st := by rfl) : run n g ss = .err x ss := by
  obtain ⟨s, h1, h2⟩ := hg
  exact run_err h1 hs h2
end DL

namespace DL
open PySem PySem.Spec L2
/-! ### loops by an invariant -/
theorem for_list {α : Type} {t : Tg} {body : G} (f : α → D) (I : Nat → Sts → Prop) : ∀ (xs : List α) (n : Nat) (s : Sts), I n s →
    (∀ k x s, xs[k]? = some x → I (n + k) s → ∃ s1 s2, t (f x) s = some s1 ∧ body s1 = .nx s2 ∧ I (n + k + 1) s2) → ∃ s', forG t body (xs.map f) s = .nx s' ∧ I (n + xs.length) s'
  | [], n, s, h0, _ => ⟨s, rfl, h0⟩
  | x :: r, n, s, h0, step => by
    obtain ⟨s1, s2, e1, e2, h1⟩ := step 0 x s rfl h0
    obtain ⟨s', q, h2⟩ := for_list f I r (n + 1) s2 h1 fun k y u hy hu => by
      have := step (k + 1) y u (by simpa using hy) (by rw [show n + (k + 1) = n + 1 + k by omega]; exact hu)
      rw [show n + (k + 1) + 1 = n + 1 + k + 1 by omega] at this
      exact this
    refine ⟨s', ?_, by rw [List.length_cons, show n + (r.length + 1) = n + 1 + r.length by omega]; exact h2⟩
    rw [List.map_cons, for_nx e1 e2, q]
/-- the same, the invariant by what is done -/
theorem for_fold {α β : Type} {t : Tg} {body : G} (f : α → D) (I : β → Sts → Prop) (st : β → α → β) : ∀ (xs : List α) (b : β) (s : Sts), I b s →
    (∀ b x s, x ∈ xs → I b s → ∃ s1 s2, t (f x) s = some s1 ∧ body s1 = .nx s2 ∧ I (st b x) s2) → ∃ s', forG t body (xs.map f) s = .nx s' ∧ I (xs.foldl st b) s'
  | [], b, s, h0, _ => ⟨s, rfl, h0⟩
  | x :: r, b, s, h0, step => by
    obtain ⟨s1, s2, e1, e2, h1⟩ := step b x s List.mem_cons_self h0
    obtain ⟨s', q, h2⟩ := for_fold f I st r (st b x) s2 h1 fun b y u hy hu => step b y u (List.mem_cons_of_mem _ hy) hu
    exact ⟨s', by rw [List.map_cons, for_nx e1 e2, q], h2⟩
/-- a loop that returns v at the first x with b x -/
theorem for_ret_list {α : Type} {t : Tg} {body : G} (f : α → D) (v : D) (b : α → Bool) (P R : Sts → Prop) : ∀ (xs : List α) (s : Sts), P s →
    (∀ x ∈ xs, ∀ s, P s → ∃ s1, t (f x) s = some s1 ∧ (b x = false → ∃ s2, body s1 = .nx s2 ∧ P s2) ∧ (b x = true → ∃ s2, body s1 = .ret v s2 ∧ R s2)) →
    if xs.any b = true then ∃ s', forG t body (xs.map f) s = .ret v s' ∧ R s' else ∃ s', forG t body (xs.map f) s = .nx s' ∧ P s'
  | [], s, h0, _ => ⟨s, rfl, h0⟩
  | x :: r, s, h0, step => by
    obtain ⟨s1, e1, e2, e3⟩ := step x List.mem_cons_self s h0
    rw [List.any_cons, List.map_cons]
    rcases two (b x) with hb | hb
    · obtain ⟨s2, e, h2⟩ := e3 hb
      rw [hb, Bool.true_or, if_pos rfl]
      exact ⟨s2, for_ret e1 e, h2⟩
    · obtain ⟨s2, e, h2⟩ := e2 hb
      rw [hb, Bool.false_or, for_nx e1 e]
      exact for_ret_list f v b P R r s2 h2 fun y hy => step y (List.mem_cons_of_mem _ hy)
theorem seq_for {f : M (List D)} {t : Tg} {b h : G} {s s0 : Sts} {ds : List D} {v : D} {c : Bool} {P R : Sts → Prop} (e : f s = .ok ds s0)
    (l : if c = true then ∃ s', forG t b ds s0 = .ret v s' ∧ R s' else ∃ s', forG t b ds s0 = .nx s' ∧ P s') :
    (c = true ∧ ∃ s', sSeq (sFor f t b) h s = .ret v s' ∧ R s') ∨ (c = false ∧ ∃ s', sSeq (sFor f t b) h s = h s' ∧ P s') := by
  have e0 : sFor f t b s = forG t b ds s0 := by
    unfold sFor
    rw [e]
    rfl
  cases c with
  | true =>
    rw [if_pos rfl] at l
    obtain ⟨s', e1, r⟩ := l
    refine .inl ⟨rfl, s', ?_, r⟩
    unfold sSeq
    rw [e0, e1]
    rfl
  | false =>
    rw [if_neg Bool.false_ne_true] at l
    obtain ⟨s', e1, r⟩ := l
    refine .inr ⟨rfl, s', ?_, r⟩
    unfold sSeq
    rw [e0, e1]
    rfl
theorem upto_nat (n : Nat) : upto 0 n = (List.range n).map nat := by
  unfold upto
  refine List.map_congr_left fun k _ => ?_
  show PyData.int (0 + (k : Int)) = .int (k : Int)
  rw [Int.zero_add]
theorem rng_nat {n : Nat} (h : n ≤ 1000000) : rng1 [nat n] = some ((List.range n).map nat) := by
  rw [rng1_i (by omega), Int.toNat_natCast, upto_nat]
theorem range_get {n k x : Nat} (h : (List.range n)[k]? = some x) : k < n ∧ x = k := by
  have h1 : k < n := by
    have := (List.getElem?_eq_some_iff.mp h).1
    rwa [List.length_range] at this
  rw [List.getElem?_range h1] at h
  exact ⟨h1, (Option.some.inj h).symm⟩
/-- names in a slot -/
theorem set_no {z : Sl} (h : NO z) {i : Nat} {d : D} {s : Sts} (e : s[i]? = some z) : tName i d s = some (s.set i (.dat d)) := by
  show setD i d s = _
  unfold setD
  rw [e]
  cases z with
  | un => rfl
  | dat _ => rfl
  | own _ => exact h.elim
/-! ### comprehensions over typed lists -/
theorem lc_typed {α : Type} {vs : List Nat} {t : Tg} {elt : M D} {s : Sts} (f : α → D) (g : α → D) {xs : List α} (h : ∀ x ∈ xs, ∃ s1, t (f x) s = some s1 ∧ elt s1 = .ok (g x) s1 ∧ wipeS s1 vs = s) : lcG vs t mYes elt (xs.map f) s = .ok (xs.map g) s := by
  induction xs with
  | nil => rfl
  | cons x r ih =>
    obtain ⟨s1, h1, h2, h3⟩ := h x List.mem_cons_self
    rw [List.map_cons, lcG, h1]
    show (Rs.ok true s1).bind _ = _
    simp only [bind_ok, if_true, h2, h3]
    rw [ih fun y hy => h y (List.mem_cons_of_mem _ hy)]
    rfl
theorem lc_filter {α : Type} {vs : List Nat} {t : Tg} {test : M Bool} {elt : M D} {s : Sts} (f : α → D) (g : α → D) (b : α → Bool) {xs : List α} (h : ∀ x ∈ xs, ∃ s1, t (f x) s = some s1 ∧ test s1 = .ok (b x) s1 ∧ (b x = true → elt s1 = .ok (g x) s1) ∧ wipeS s1 vs = s) : lcG vs t test elt (xs.map f) s = .ok ((xs.filter b).map g) s := by
  induction xs with
  | nil => rfl
  | cons x r ih =>
    obtain ⟨s1, h1, h2, h3, h4⟩ := h x List.mem_cons_self
    have ih := ih fun y hy => h y (List.mem_cons_of_mem _ hy)
    rw [List.map_cons, lcG, h1]
    show (test s1).bind _ = _
    rcases two (b x) with hb | hb
    · rw [h2, hb, List.filter_cons_of_pos hb]
      simp only [bind_ok, if_true, h3 hb, h4]
      rw [ih]
      rfl
    · rw [h2, hb, List.filter_cons_of_neg (by rw [hb]; exact Bool.false_ne_true)]
      simp only [bind_ok, Bool.false_eq_true, if_false, h4]
      rw [ih]
theorem any_typed {α : Type} {vs : List Nat} {t : Tg} {elt : M D} {s : Sts} (f : α → D) (b : α → Bool) {xs : List α} (h : ∀ x ∈ xs, ∃ s1, t (f x) s = some s1 ∧ elt s1 = .ok (.bool (b x)) s1 ∧ wipeS s1 vs = s) : anyG true vs t elt (xs.map f) s = .ok (xs.any b) s := by
  induction xs with
  | nil => rfl
  | cons x r ih =>
    obtain ⟨s1, h1, h2, h3⟩ := h x List.mem_cons_self
    have ih := ih fun y hy => h y (List.mem_cons_of_mem _ hy)
    rw [List.map_cons, anyG, h1, List.any_cons]
    show (elt s1).bind _ = _
    rw [h2]
    rcases two (b x) with hb | hb
    · simp only [bind_ok, hb, if_true, h3, Bool.true_or]
    · simp only [bind_ok, hb, Bool.false_eq_true, if_false, h3, Bool.false_or]; exact ih
end DL

namespace DL
open PySem PySem.Spec L2
def top (i : Nat) : Stmt := PySem.Challenge.pw_treegarb_k02_matching.main.body.getD i (.Pass ⟨0, 0, 0, 0⟩)
def exm_BadPlace : Str → Option Bool := fun y => if y = "BadPlace" then some true else none
structure Fa (K : PySem.W.Frag) (mg : Str → Option Value) (ca : Str → Addr) : Prop where
  b_abs : mg "abs" = none
  b_any : mg "any" = none
  b_bool : mg "bool" = none
  b_int : mg "int" = none
  b_isinstance : mg "isinstance" = none
  b_len : mg "len" = none
  b_range : mg "range" = none
  b_tuple : mg "tuple" = none
  x_BadPlace : ExcT K mg "BadPlace" (ca "BadPlace")
  h_BadPlace : ∀ y b, exm_BadPlace y = some b → PySem.W.exmOne K (.ref (ca y)) (.ref (ca "BadPlace")) = some b
section
variable {P : Program} {w : World} {K : PySem.W.Frag} {mg : Str → Option Value} {base : Heap} {T : List Addr} {ca : Str → Addr}
/-! ### element_at -/
abbrev s_element_at : Stmt := top 4
abbrev N_element_at : List Str := ["document", "place", "element", "index"]
theorem sc_element_at : FnScope N_element_at ["document", "place"] (defScope s_element_at) := ⟨rfl, rfl, rfl, by decide +kernel, rfl, by decide +kernel, by decide +kernel⟩
def b_element_at_1 : G := (sSeq (sIf (mT (mMap2 (mVar 3) (mMap (mCons (mMap2 (mVar 2) (mC (.int 2)) ixD) mNil) lenD) geD)) (sRaise "BadPlace") sNext) (sAsg (mMap2 (mMap2 (mVar 2) (mC (.int 2)) ixD) (mVar 3) ixD) (tName 2)))
def g_element_at : G := (sSeq (sAsg (mVar 0) (tName 2)) (sSeq (sFor (mMap (mVar 1) items) (tName 3) b_element_at_1) (sRet (mVar 2))))
def F_element_at : FnM := run 4 g_element_at
theorem ok_element_at (E : Fa K mg ca) (G_element_at : Gv K mg "element_at" s_element_at ["document", "place"]) : FnOk P w K mg base (L2.CX P w) 1 G_element_at.f G_element_at.fd ["document", "place"] (spF K T ca 2 F_element_at) := by
  refine fn_ok G_element_at.fn sc_element_at rfl rfl (by decide) fun pin O0 H0 cdv A outer s H Ex hr => ?_
  exact (s_cons (s_set 2 sc_element_at.nd (dv 0)) (s_cons (s_for (passes_of rfl) (di_seq (dv 1)) (dg_name 3 sc_element_at.nd) (s_cons (s_if (t_cmp op_geA o_ge.op (dv 3) (d_callB call_len ((o_len rfl).op fun _ _ => one_len) E.b_len bt_len (da_cons (d_ix ix_seq (o_ix rfl) (dv 2) d_int) da_nil))) (s_one (s_raise E.x_BadPlace (takes_of rfl rfl rfl rfl))) s_nil) (s_one (s_set 2 sc_element_at.nd (d_ix ix_seq (o_ix rfl) (d_ix ix_seq (o_ix rfl) (dv 2) d_int) (dv 3)))))) (s_one (s_ret (dv 2)))))
/-! ### places -/
abbrev s_places : Stmt := top 5
abbrev N_places : List Str := ["document", "found", "k", "place"]
theorem sc_places : FnScope N_places ["document"] (defScope s_places) := ⟨rfl, rfl, rfl, by decide +kernel, rfl, by decide +kernel, by decide +kernel⟩
def b_places_1 : G := (sApp 1 (mMap2 (mMap (mCons (mVar 2) mNil) mkT) (mVar 3) addD))
def b_places_2 (F : FnM) : G := (sFor (mMap (mCall 1 F (mCons (mMap2 (mMap2 (mVar 0) (mC (.int 2)) ixD) (mVar 2) ixD) mNil)) items) (tName 3) b_places_1)
def g_places (F : FnM) : G := (sSeq (sOwn 1 (mMap (mCons (mMap mNil mkT) mNil) sized)) (sSeq (sFor (mMap (mCons (mMap (mCons (mMap2 (mVar 0) (mC (.int 2)) ixD) mNil) lenD) mNil) rng1) (tName 2) (b_places_2 F)) (sFrz 1 (sRet (mVar 1)))))
def F_places : Nat → FnM
  | 0 => fun _ => .bad
  | k + 1 => run 4 (g_places (F_places k))
theorem ok_places (E : Fa K mg ca) (G_places : Gv K mg "places" s_places ["document"]) : ∀ n : Nat, FnOk P w K mg base (L2.CX P w) (0 + n) G_places.f G_places.fd ["document"] (spF K T ca 1 (F_places n))
  | 0 => fn_bad rfl
  | n + 1 => by
    have ih := ok_places E G_places n
    refine fn_ok (g := g_places (F_places n)) G_places.fn sc_places rfl rfl (by decide) fun pin O0 H0 cdv A outer s H Ex hr => ?_
    have hr : Room (0 + n) _ := hr
    exact (s_cons (s_own 1 sc_places.nd (f_lst (da_cons (d_tup da_nil) da_nil))) (s_cons (s_for (passes_of rfl) (di_range1 E.b_range (da_cons (d_callB call_len ((o_len rfl).op fun _ _ => one_len) E.b_len bt_len (da_cons (d_ix ix_seq (o_ix rfl) (dv 0) d_int) da_nil)) da_nil)) (dg_name 2 sc_places.nd) (s_one (s_for (passes_of rfl) (di_seq (d_c G_places ih (hr.mono (by omega)) (takes_of rfl rfl rfl rfl) (da_cons (d_ix ix_seq (o_ix rfl) (d_ix ix_seq (o_ix rfl) (dv 0) d_int) (dv 2)) da_nil))) (dg_name 3 sc_places.nd) (s_one (s_app 1 rfl (d_bin op_addA (o_add rfl).op (d_tup (da_cons (dv 2) da_nil)) (dv 3))))))) (ss_frz 1 (s_one (s_ret (dv 1))))))
/-! ### fits_number -/
abbrev s_fits_number : Stmt := top 7
abbrev N_fits_number : List Str := ["step", "first", "number"]
theorem sc_fits_number : FnScope N_fits_number ["step", "first", "number"] (defScope s_fits_number) := ⟨rfl, rfl, rfl, by decide +kernel, rfl, by decide +kernel, by decide +kernel⟩
def g_fits_number : G := (sSeq (sIf (mT (mMap2 (mVar 0) (mC (.int 0)) eqD)) (sRet (mMap2 (mVar 2) (mVar 1) eqD)) sNext) (sRet (mAndV (mMap2 (mVar 2) (mVar 1) geD) (mMap2 (mMap2 (mMap (mCons (mMap2 (mVar 2) (mVar 1) subD) mNil) intD) (mVar 0) modD) (mC (.int 0)) eqD))))
def F_fits_number : FnM := run 3 g_fits_number
theorem ok_fits_number (E : Fa K mg ca) (G_fits_number : Gv K mg "fits_number" s_fits_number ["step", "first", "number"]) : FnOk P w K mg base (L2.CX P w) 1 G_fits_number.f G_fits_number.fd ["step", "first", "number"] (spF K T ca 3 F_fits_number) := by
  refine fn_ok G_fits_number.fn sc_fits_number rfl rfl (by decide) fun pin O0 H0 cdv A outer s H Ex hr => ?_
  exact (s_cons (s_if (t_cmp (op_eqA hr) (o_eq rfl).op (dv 0) d_int) (s_one (s_ret (d_cmp (op_eqA hr) (o_eq rfl).op (dv 2) (dv 1)))) s_nil) (s_one (s_ret (d_and (d_cmp op_geA o_ge.op (dv 2) (dv 1)) (d_one (d_cmp (op_eqA hr) (o_eq rfl).op (d_bin op_mod o_mod.op (d_callTy call_int1 (o_int) E.b_int bt_int (da_cons (d_bin op_sub o_sub.op (dv 2) (dv 1)) da_nil)) (dv 0)) d_int))))))
/-! ### fits -/
abbrev s_fits : Stmt := top 8
abbrev N_fits : List Str := ["part", "kind", "marks", "number", "mark", "what", "name"]
theorem sc_fits : FnScope N_fits ["part", "kind", "marks", "number"] (defScope s_fits) := ⟨rfl, rfl, rfl, by decide +kernel, rfl, by decide +kernel, by decide +kernel⟩
def b_fits_1 : G := (sIf (mT (mMap2 (mVar 4) (mVar 2) notInD)) (sRet (mC (.bool false))) sNext)
def b_fits_2 : G := (sIf (mOr (mAnd (mT (mMap2 (mVar 5) (mC (.str "kind")) eqD)) (mT (mMap2 (mVar 6) (mVar 1) eqD))) (mAnd (mT (mMap2 (mVar 5) (mC (.str "mark")) eqD)) (mT (mMap2 (mVar 6) (mVar 2) inD)))) (sRet (mC (.bool false))) sNext)
def g_fits : G := (sSeq (sIf (mAnd (mT (mMap2 (mMap2 (mVar 0) (mC (.int 0)) ixD) (mC .none) notNone)) (mT (mMap2 (mMap2 (mVar 0) (mC (.int 0)) ixD) (mVar 1) neD))) (sRet (mC (.bool false))) sNext) (sSeq (sFor (mMap (mMap2 (mVar 0) (mC (.int 1)) ixD) items) (tName 4) b_fits_1) (sSeq (sFor (mMap (mMap2 (mVar 0) (mC (.int 2)) ixD) items) (tTupG 2 (tsCons (tName 5) (tsCons (tName 6) tsNil))) b_fits_2) (sRet (mCall 3 F_fits_number (mCons (mMap2 (mVar 0) (mC (.int 3)) ixD) (mCons (mMap2 (mVar 0) (mC (.int 4)) ixD) (mCons (mVar 3) mNil))))))))
def F_fits : FnM := run 7 g_fits
theorem ok_fits (E : Fa K mg ca) (G_fits : Gv K mg "fits" s_fits ["part", "kind", "marks", "number"]) (G_fits_number : Gv K mg "fits_number" s_fits_number ["step", "first", "number"]) (P_fits_number : FnOk P w K mg base (L2.CX P w) 1 G_fits_number.f G_fits_number.fd ["step", "first", "number"] (spF K T ca 3 F_fits_number)) : FnOk P w K mg base (L2.CX P w) 2 G_fits.f G_fits.fd ["part", "kind", "marks", "number"] (spF K T ca 4 F_fits) := by
  refine fn_ok G_fits.fn sc_fits rfl rfl (by decide) fun pin O0 H0 cdv A outer s H Ex hr => ?_
  exact (s_cons (s_if (t_bo (w_and (t_cmp op_notN o_notN (d_ix ix_seq (o_ix rfl) (dv 0) d_int) d_non) (w_and1 (t_cmp (op_neA hr) (o_ne rfl).op (d_ix ix_seq (o_ix rfl) (dv 0) d_int) (dv 1))))) (s_one (s_ret d_bl)) s_nil) (s_cons (s_for (passes_of rfl) (di_seq (d_ix ix_seq (o_ix rfl) (dv 0) d_int)) (dg_name 4 sc_fits.nd) (s_one (s_if (t_cmp op_notIn_seq (o_notIn rfl).op (dv 4) (dv 2)) (s_one (s_ret d_bl)) s_nil))) (s_cons (s_for (passes_of rfl) (di_seq (d_ix ix_seq (o_ix rfl) (dv 0) d_int)) (dg_tup (dgs_cons (dg_name 5 sc_fits.nd) (dgs_cons (dg_name 6 sc_fits.nd) dgs_nil))) (s_one (s_if (t_bo (w_or (t_bo (w_and (t_cmp (op_eqA hr) (o_eq rfl).op (dv 5) d_str) (w_and1 (t_cmp (op_eqA hr) (o_eq rfl).op (dv 6) (dv 1))))) (w_or1 (t_bo (w_and (t_cmp (op_eqA hr) (o_eq rfl).op (dv 5) d_str) (w_and1 (t_cmp op_in_seq (o_in rfl).op (dv 6) (dv 2)))))))) (s_one (s_ret d_bl)) s_nil))) (s_one (s_ret (d_c G_fits_number P_fits_number (hr.mono (by omega)) (takes_of rfl rfl rfl rfl) (da_cons (d_ix ix_seq (o_ix rfl) (dv 0) d_int) (da_cons (d_ix ix_seq (o_ix rfl) (dv 0) d_int) (da_cons (dv 3) da_nil)))))))))
/-! ### number_of -/
abbrev s_number_of : Stmt := top 9
abbrev N_number_of : List Str := ["place"]
theorem sc_number_of : FnScope N_number_of ["place"] (defScope s_number_of) := ⟨rfl, rfl, rfl, by decide +kernel, rfl, by decide +kernel, by decide +kernel⟩
def g_number_of : G := (sSeq (sIf (mT (mMap2 (mMap (mCons (mVar 0) mNil) lenD) (mC (.int 0)) eqD)) (sRet (mC (.int 1))) sNext) (sRet (mMap2 (mMap2 (mVar 0) (mMap (mC (.int 1)) negD) ixD) (mC (.int 1)) addD)))
def F_number_of : FnM := run 1 g_number_of
theorem ok_number_of (E : Fa K mg ca) (G_number_of : Gv K mg "number_of" s_number_of ["place"]) : FnOk P w K mg base (L2.CX P w) 1 G_number_of.f G_number_of.fd ["place"] (spF K T ca 1 F_number_of) := by
  refine fn_ok G_number_of.fn sc_number_of rfl rfl (by decide) fun pin O0 H0 cdv A outer s H Ex hr => ?_
  exact (s_cons (s_if (t_cmp (op_eqA hr) (o_eq rfl).op (d_callB call_len ((o_len rfl).op fun _ _ => one_len) E.b_len bt_len (da_cons (dv 0) da_nil)) d_int) (s_one (s_ret d_int)) s_nil) (s_one (s_ret (d_bin op_addA (o_add rfl).op (d_ix ix_seq (o_ix rfl) (dv 0) (d_neg d_int)) d_int))))
/-! ### linked_places -/
abbrev s_linked_places : Stmt := top 10
abbrev N_linked_places : List Str := ["place", "link", "above", "index", "k"]
theorem sc_linked_places : FnScope N_linked_places ["place", "link"] (defScope s_linked_places) := ⟨rfl, rfl, rfl, by decide +kernel, rfl, by decide +kernel, by decide +kernel⟩
def e_linked_places_1 : M D := (mSl (mVar 0) (mPart none) (mPart (some (mVar 4))))
def e_linked_places_2 : M D := (mMap2 (mVar 2) (mMap (mCons (mVar 4) mNil) mkT) addD)
def g_linked_places : G := (sSeq (sIf (mT (mMap2 (mMap (mCons (mVar 0) mNil) lenD) (mC (.int 0)) eqD)) (sRet (mMap mNil mkL)) sNext) (sSeq (sAsg (mMap (mCons (mSl (mVar 0) (mPart none) (mPart (some (mMap (mC (.int 1)) negD)))) (mCons (mMap2 (mVar 0) (mMap (mC (.int 1)) negD) ixD) mNil)) mkT) (tTupG 2 (tsCons (tName 2) (tsCons (tName 3) tsNil)))) (sSeq (sIf (mT (mMap2 (mVar 1) (mC (.str "child")) eqD)) (sRet (mMap (mCons (mVar 2) mNil) mkL)) sNext) (sSeq (sIf (mT (mMap2 (mVar 1) (mC (.str "inside")) eqD)) (sRet (mL (mLc [4] (mMap (mCons (mMap (mCons (mVar 0) mNil) lenD) mNil) rng1) (tName 4) mYes e_linked_places_1))) sNext) (sSeq (sIf (mT (mMap2 (mVar 1) (mC (.str "next")) eqD)) (sRet (mIf (mT (mMap2 (mVar 3) (mC (.int 0)) gtD)) (mMap (mCons (mMap2 (mVar 2) (mMap (mCons (mMap2 (mVar 3) (mC (.int 1)) subD) mNil) mkT) addD) mNil) mkL) (mMap mNil mkL))) sNext) (sRet (mL (mLc [4] (mMap (mCons (mVar 3) mNil) rng1) (tName 4) mYes e_linked_places_2))))))))
def F_linked_places : FnM := run 5 g_linked_places
theorem ok_linked_places (E : Fa K mg ca) (G_linked_places : Gv K mg "linked_places" s_linked_places ["place", "link"]) : FnOk P w K mg base (L2.CX P w) 1 G_linked_places.f G_linked_places.fd ["place", "link"] (spF K T ca 2 F_linked_places) := by
  refine fn_ok G_linked_places.fn sc_linked_places rfl rfl (by decide) fun pin O0 H0 cdv A outer s H Ex hr => ?_
  exact (s_cons (s_if (t_cmp (op_eqA hr) (o_eq rfl).op (d_callB call_len ((o_len rfl).op fun _ _ => one_len) E.b_len bt_len (da_cons (dv 0) da_nil)) d_int) (s_one (s_ret (d_lst da_nil))) s_nil) (s_cons (s_asg (d_tup (da_cons (d_sl (dv 0) p_none (p_some (d_neg d_int))) (da_cons (d_ix ix_seq (o_ix rfl) (dv 0) (d_neg d_int)) da_nil))) (dg_tup (dgs_cons (dg_name 2 sc_linked_places.nd) (dgs_cons (dg_name 3 sc_linked_places.nd) dgs_nil)))) (s_cons (s_if (t_cmp (op_eqA hr) (o_eq rfl).op (dv 1) d_str) (s_one (s_ret (d_lst (da_cons (dv 2) da_nil)))) s_nil) (s_cons (s_if (t_cmp (op_eqA hr) (o_eq rfl).op (dv 1) d_str) (s_one (s_ret (d_of (f_lc (own := [("k", 4)]) sc_linked_places.nd (blkOk_by (N := N_linked_places) (sc := defScope s_linked_places) (by decide +kernel)) (di_range1 E.b_range (da_cons (d_callB call_len ((o_len rfl).op fun _ _ => one_len) E.b_len bt_len (da_cons (dv 0) da_nil)) da_nil)) (fun _ _ _ _ _ => (dg_name 4 sc_linked_places.nd)) (fun _ _ _ _ _ => dts_nil) (fun _ _ _ _ _ => (d_sl (dv 0) p_none (p_some (dv 4)))))))) s_nil) (s_cons (s_if (t_cmp (op_eqA hr) (o_eq rfl).op (dv 1) d_str) (s_one (s_ret (d_if (t_cmp op_gtA o_gt.op (dv 3) d_int) (d_lst (da_cons (d_bin op_addA (o_add rfl).op (dv 2) (d_tup (da_cons (d_bin op_sub o_sub.op (dv 3) d_int) da_nil))) da_nil)) (d_lst da_nil)))) s_nil) (s_one (s_ret (d_of (f_lc (own := [("k", 4)]) sc_linked_places.nd (blkOk_by (N := N_linked_places) (sc := defScope s_linked_places) (by decide +kernel)) (di_range1 E.b_range (da_cons (dv 3) da_nil)) (fun _ _ _ _ _ => (dg_name 4 sc_linked_places.nd)) (fun _ _ _ _ _ => dts_nil) (fun _ _ _ _ _ => (d_bin op_addA (o_add rfl).op (dv 2) (d_tup (da_cons (dv 4) da_nil)))))))))))))
/-! ### matches_parts -/
abbrev s_matches_parts : Stmt := top 11
abbrev N_matches_parts : List Str := ["document", "place", "parts", "links", "element", "other"]
theorem sc_matches_parts : FnScope N_matches_parts ["document", "place", "parts", "links"] (defScope s_matches_parts) := ⟨rfl, rfl, rfl, by decide +kernel, rfl, by decide +kernel, by decide +kernel⟩
def b_matches_parts_1 (F : FnM) : G := (sIf (mT (mCall 4 F (mCons (mVar 0) (mCons (mVar 5) (mCons (mSl (mVar 2) (mPart none) (mPart (some (mMap (mC (.int 1)) negD)))) (mCons (mSl (mVar 3) (mPart none) (mPart (some (mMap (mC (.int 1)) negD)))) mNil)))))) (sRet (mC (.bool true))) sNext)
def g_matches_parts (F : FnM) : G := (sSeq (sAsg (mCall 2 F_element_at (mCons (mVar 0) (mCons (mVar 1) mNil))) (tName 4)) (sSeq (sIf (mNot (mT (mCall 4 F_fits (mCons (mMap2 (mVar 2) (mMap (mC (.int 1)) negD) ixD) (mCons (mMap2 (mVar 4) (mC (.int 0)) ixD) (mCons (mMap2 (mVar 4) (mC (.int 1)) ixD) (mCons (mCall 1 F_number_of (mCons (mVar 1) mNil)) mNil))))))) (sRet (mC (.bool false))) sNext) (sSeq (sIf (mT (mMap2 (mMap (mCons (mVar 2) mNil) lenD) (mC (.int 1)) eqD)) (sRet (mC (.bool true))) sNext) (sSeq (sFor (mMap (mCall 2 F_linked_places (mCons (mVar 1) (mCons (mMap2 (mVar 3) (mMap (mC (.int 1)) negD) ixD) mNil))) items) (tName 5) (b_matches_parts_1 F)) (sRet (mC (.bool false)))))))
def F_matches_parts : Nat → FnM
  | 0 => fun _ => .bad
  | k + 1 => run 6 (g_matches_parts (F_matches_parts k))
theorem ok_matches_parts (E : Fa K mg ca) (G_matches_parts : Gv K mg "matches_parts" s_matches_parts ["document", "place", "parts", "links"]) (G_element_at : Gv K mg "element_at" s_element_at ["document", "place"]) (P_element_at : FnOk P w K mg base (L2.CX P w) 1 G_element_at.f G_element_at.fd ["document", "place"] (spF K T ca 2 F_element_at)) (G_fits : Gv K mg "fits" s_fits ["part", "kind", "marks", "number"]) (P_fits : FnOk P w K mg base (L2.CX P w) 2 G_fits.f G_fits.fd ["part", "kind", "marks", "number"] (spF K T ca 4 F_fits)) (G_linked_places : Gv K mg "linked_places" s_linked_places ["place", "link"]) (P_linked_places : FnOk P w K mg base (L2.CX P w) 1 G_linked_places.f G_linked_places.fd ["place", "link"] (spF K T ca 2 F_linked_places)) (G_number_of : Gv K mg "number_of" s_number_of ["place"]) (P_number_of : FnOk P w K mg base (L2.CX P w) 1 G_number_of.f G_number_of.fd ["place"] (spF K T ca 1 F_number_of)) : ∀ n : Nat, FnOk P w K mg base (L2.CX P w) (2 + n) G_matches_parts.f G_matches_parts.fd ["document", "place", "parts", "links"] (spF K T ca 4 (F_matches_parts n))
  | 0 => fn_bad rfl
  | n + 1 => by
    have ih := ok_matches_parts E G_matches_parts G_element_at P_element_at G_fits P_fits G_linked_places P_linked_places G_number_of P_number_of n
    refine fn_ok (g := g_matches_parts (F_matches_parts n)) G_matches_parts.fn sc_matches_parts rfl rfl (by decide) fun pin O0 H0 cdv A outer s H Ex hr => ?_
    have hr : Room (2 + n) _ := hr
    exact (s_cons (s_set 4 sc_matches_parts.nd (d_c G_element_at P_element_at (hr.mono (by omega)) (takes_of rfl rfl rfl rfl) (da_cons (dv 0) (da_cons (dv 1) da_nil)))) (s_cons (s_if (t_not (t_val (d_c G_fits P_fits (hr.mono (by omega)) (takes_of rfl rfl rfl rfl) (da_cons (d_ix ix_seq (o_ix rfl) (dv 2) (d_neg d_int)) (da_cons (d_ix ix_seq (o_ix rfl) (dv 4) d_int) (da_cons (d_ix ix_seq (o_ix rfl) (dv 4) d_int) (da_cons (d_c G_number_of P_number_of (hr.mono (by omega)) (takes_of rfl rfl rfl rfl) (da_cons (dv 1) da_nil)) da_nil))))))) (s_one (s_ret d_bl)) s_nil) (s_cons (s_if (t_cmp (op_eqA hr) (o_eq rfl).op (d_callB call_len ((o_len rfl).op fun _ _ => one_len) E.b_len bt_len (da_cons (dv 2) da_nil)) d_int) (s_one (s_ret d_bl)) s_nil) (s_cons (s_for (passes_of rfl) (di_seq (d_c G_linked_places P_linked_places (hr.mono (by omega)) (takes_of rfl rfl rfl rfl) (da_cons (dv 1) (da_cons (d_ix ix_seq (o_ix rfl) (dv 3) (d_neg d_int)) da_nil)))) (dg_name 5 sc_matches_parts.nd) (s_one (s_if (t_val (d_c G_matches_parts ih (hr.mono (by omega)) (takes_of rfl rfl rfl rfl) (da_cons (dv 0) (da_cons (dv 5) (da_cons (d_sl (dv 2) p_none (p_some (d_neg d_int))) (da_cons (d_sl (dv 3) p_none (p_some (d_neg d_int))) da_nil)))))) (s_one (s_ret d_bl)) s_nil))) (s_one (s_ret d_bl))))))
/-! ### matches -/
abbrev s_matches : Stmt := top 12
abbrev N_matches : List Str := ["document", "place", "selector"]
theorem sc_matches : FnScope N_matches ["document", "place", "selector"] (defScope s_matches) := ⟨rfl, rfl, rfl, by decide +kernel, rfl, by decide +kernel, by decide +kernel⟩
def g_matches : G := (sRet (mCall 4 (F_matches_parts 5) (mCons (mVar 0) (mCons (mVar 1) (mCons (mMap2 (mVar 2) (mC (.int 0)) ixD) (mCons (mMap2 (mVar 2) (mC (.int 1)) ixD) mNil))))))
def F_matches : FnM := run 3 g_matches
theorem ok_matches (E : Fa K mg ca) (G_matches : Gv K mg "matches" s_matches ["document", "place", "selector"]) (G_matches_parts : Gv K mg "matches_parts" s_matches_parts ["document", "place", "parts", "links"]) (P_matches_parts : FnOk P w K mg base (L2.CX P w) 7 G_matches_parts.f G_matches_parts.fd ["document", "place", "parts", "links"] (spF K T ca 4 (F_matches_parts 5))) : FnOk P w K mg base (L2.CX P w) 8 G_matches.f G_matches.fd ["document", "place", "selector"] (spF K T ca 3 F_matches) := by
  refine fn_ok G_matches.fn sc_matches rfl rfl (by decide) fun pin O0 H0 cdv A outer s H Ex hr => ?_
  exact (s_one (s_ret (d_c G_matches_parts P_matches_parts (hr.mono (by omega)) (takes_of rfl rfl rfl rfl) (da_cons (dv 0) (da_cons (dv 1) (da_cons (d_ix ix_seq (o_ix rfl) (dv 2) d_int) (da_cons (d_ix ix_seq (o_ix rfl) (dv 2) d_int) da_nil)))))))
/-! ### matches_any -/
abbrev s_matches_any : Stmt := top 13
abbrev N_matches_any : List Str := ["document", "place", "selectors", "selector"]
theorem sc_matches_any : FnScope N_matches_any ["document", "place", "selectors"] (defScope s_matches_any) := ⟨rfl, rfl, rfl, by decide +kernel, rfl, by decide +kernel, by decide +kernel⟩
def e_matches_any_1 : M D := (mCall 3 F_matches (mCons (mVar 0) (mCons (mVar 1) (mCons (mVar 3) mNil))))
def g_matches_any : G := (sRet (mAny true [3] (mMap (mVar 2) items) (tName 3) e_matches_any_1))
def F_matches_any : FnM := run 4 g_matches_any
theorem ok_matches_any (E : Fa K mg ca) (G_matches_any : Gt K mg "matches_any" s_matches_any ["document", "place", "selectors"]) (hPT : G_matches_any.PT ∈ T) (TB : GxR.TabB base mg G_matches_any.cc G_matches_any.PT) (G_matches : Gv K mg "matches" s_matches ["document", "place", "selector"]) (P_matches : FnOk P w K mg base (L2.CX P w) 8 G_matches.f G_matches.fd ["document", "place", "selector"] (spF K T ca 3 F_matches)) : FnOk P w K mg base (L2.CX P w) 11 G_matches_any.f G_matches_any.fd ["document", "place", "selectors"] (spF K T ca 3 F_matches_any) := by
  refine fn_okC G_matches_any.fc sc_matches_any rfl rfl (by decide) fun pin O0 H0 A outer s H Ex hr => ?_
  exact (s_one (s_ret (d_any (own := [("selector", 3)]) hr hPT TB rfl E.b_any sc_matches_any.nd (blkOk_by (N := N_matches_any) (sc := defScope s_matches_any) (by decide +kernel)) (di_seq (dv 2)) (fun _ _ _ _ _ _ => (dg_name 3 sc_matches_any.nd)) (fun _ _ _ _ _ _ hg => (d_c G_matches P_matches (hg.mono (by omega)) takes_no (da_cons (dv 0) (da_cons (dv 1) (da_cons (dv 3) da_nil))))))))
/-! ### matching -/
abbrev s_matching : Stmt := top 14
abbrev N_matching : List Str := ["document", "selectors", "place"]
theorem sc_matching : FnScope N_matching ["document", "selectors"] (defScope s_matching) := ⟨rfl, rfl, rfl, by decide +kernel, rfl, by decide +kernel, by decide +kernel⟩
def t_matching_1 : M Bool := (mT (mCall 3 F_matches_any (mCons (mVar 0) (mCons (mVar 2) (mCons (mVar 1) mNil)))))
def g_matching : G := (sRet (mL (mLc [2] (mMap (mCall 1 (F_places 7) (mCons (mVar 0) mNil)) items) (tName 2) t_matching_1 (mVar 2))))
def F_matching : FnM := run 3 g_matching
theorem ok_matching (E : Fa K mg ca) (G_matching : Gv K mg "matching" s_matching ["document", "selectors"]) (G_matches_any : Gt K mg "matches_any" s_matches_any ["document", "place", "selectors"]) (P_matches_any : FnOk P w K mg base (L2.CX P w) 11 G_matches_any.f G_matches_any.fd ["document", "place", "selectors"] (spF K T ca 3 F_matches_any)) (G_places : Gv K mg "places" s_places ["document"]) (P_places : FnOk P w K mg base (L2.CX P w) 7 G_places.f G_places.fd ["document"] (spF K T ca 1 (F_places 7))) : FnOk P w K mg base (L2.CX P w) 12 G_matching.f G_matching.fd ["document", "selectors"] (spF K T ca 2 F_matching) := by
  refine fn_ok G_matching.fn sc_matching rfl rfl (by decide) fun pin O0 H0 cdv A outer s H Ex hr => ?_
  exact (s_one (s_ret (d_of (f_lc (own := [("place", 2)]) sc_matching.nd (blkOk_by (N := N_matching) (sc := defScope s_matching) (by decide +kernel)) (di_seq (d_c G_places P_places (hr.mono (by omega)) (takes_of rfl rfl rfl rfl) (da_cons (dv 0) da_nil))) (fun _ _ _ _ _ => (dg_name 2 sc_matching.nd)) (fun _ _ _ _ _ => dts_one (t_val (d_c G_matches_any.toGv P_matches_any (hr.mono (by omega)) takes_no (da_cons (dv 0) (da_cons (dv 2) (da_cons (dv 1) da_nil)))))) (fun _ _ _ _ _ => (dv 2))))))
/-! ### _law_draws -/
abbrev s_law_draws : Stmt := top 17
abbrev N_law_draws : List Str := ["_law_script", "_law_start", "_law_most", "_law_draws_here", "_law_cell_here", "_law_number", "_law_mixed", "_law_k"]
theorem sc_law_draws : FnScope N_law_draws ["_law_script", "_law_start", "_law_most"] (defScope s_law_draws) := ⟨rfl, rfl, rfl, by decide +kernel, rfl, by decide +kernel, by decide +kernel⟩
def b_law_draws_1 : G := (sSeq (sIf (mT (mMap2 (mVar 5) (mC (.int 0)) gtD)) (sApp 3 (mMap2 (mMap (mCons (mVar 5) mNil) intD) (mC (.int 10000)) modD)) sNext) (sAsg (mMap2 (mVar 5) (mC (.int 10000)) fdivD) (tName 5)))
def b_law_draws_2 : G := (sSeq (sAsg (mMap (mCons (mMap (mCons (mVar 4) mNil) intD) mNil) absD) (tName 5)) (sIf (mT (mMap2 (mVar 5) (mMap2 (mC (.int 10)) (mC (.int 18)) powD) ltD)) (sSeq (sAsg (mMap2 (mMap (mCons (mMap2 (mMap2 (mVar 5) (mC (.int 48271)) mulD) (mC (.int 11)) addD) mNil) intD) (mC (.int 2147483647)) modD) (tName 6)) (sSeq (sApp 3 (mVar 5)) (sSeq (sApp 3 (mMap2 (mMap2 (mMap (mCons (mMap2 (mMap2 (mMap2 (mVar 6) (mC (.int 16807)) mulD) (mMap2 (mVar 5) (mC (.int 9)) fdivD) addD) (mC (.int 3)) addD) mNil) intD) (mC (.int 2147483647)) modD) (mC (.int 7)) fdivD)) (sApp 3 (mMap2 (mMap2 (mMap (mCons (mMap2 (mMap2 (mMap2 (mVar 6) (mC (.int 69621)) mulD) (mMap2 (mVar 5) (mC (.int 5)) fdivD) addD) (mC (.int 7)) addD) mNil) intD) (mC (.int 2147483647)) modD) (mC (.int 11)) fdivD))))) (sFor (mMap (mCons (mC (.int 20)) mNil) rng1) (tName 7) b_law_draws_1)))
def g_law_draws : M (List D) := (lSeq (sOwn 3 (mMap mNil sized)) (lSeq (sFor (mMap (mSl (mVar 0) (mPart (some (mVar 1))) (mPart none)) items) (tName 4) b_law_draws_2) (mSlF 3 (mPart none) (mPart (some (mVar 2))))))
def F_law_draws : FnL := runL 8 g_law_draws
theorem ok_law_draws (E : Fa K mg ca) (G_law_draws : Gv K mg "_law_draws" s_law_draws ["_law_script", "_law_start", "_law_most"]) : FnOk P w K mg base (L2.CX P w) 1 G_law_draws.f G_law_draws.fd ["_law_script", "_law_start", "_law_most"] (spL K T 3 F_law_draws) := by
  refine fn_okL (ca := ca) G_law_draws.fn sc_law_draws rfl rfl (by decide) fun pin O0 H0 cdv A outer s H Ex hr => ?_
  exact (l_cons (W := Wno) (s_own 3 sc_law_draws.nd (f_lst da_nil)) (l_cons (W := Wno) (s_for (passes_of rfl) (di_seq (d_sl (dv 0) (p_some (dv 1)) p_none)) (dg_name 4 sc_law_draws.nd) (s_cons (s_set 5 sc_law_draws.nd (d_callB call_abs (o_abs) E.b_abs bt_abs (da_cons (d_callTy call_int1 (o_int) E.b_int bt_int (da_cons (dv 4) da_nil)) da_nil))) (s_one (s_if (t_cmp op_ltA o_lt.op (dv 5) (d_bin op_pow o_pow.op d_int d_int)) (s_cons (s_set 6 sc_law_draws.nd (d_bin op_mod o_mod.op (d_callTy call_int1 (o_int) E.b_int bt_int (da_cons (d_bin op_addA (o_add rfl).op (d_bin op_mulA (o_mul rfl).op (dv 5) d_int) d_int) da_nil)) d_int)) (s_cons (s_app 3 rfl (dv 5)) (s_cons (s_app 3 rfl (d_bin op_fdiv o_fdiv.op (d_bin op_mod o_mod.op (d_callTy call_int1 (o_int) E.b_int bt_int (da_cons (d_bin op_addA (o_add rfl).op (d_bin op_addA (o_add rfl).op (d_bin op_mulA (o_mul rfl).op (dv 6) d_int) (d_bin op_fdiv o_fdiv.op (dv 5) d_int)) d_int) da_nil)) d_int) d_int)) (s_one (s_app 3 rfl (d_bin op_fdiv o_fdiv.op (d_bin op_mod o_mod.op (d_callTy call_int1 (o_int) E.b_int bt_int (da_cons (d_bin op_addA (o_add rfl).op (d_bin op_addA (o_add rfl).op (d_bin op_mulA (o_mul rfl).op (dv 6) d_int) (d_bin op_fdiv o_fdiv.op (dv 5) d_int)) d_int) da_nil)) d_int) d_int)))))) (s_one (s_for (passes_of rfl) (di_range1 E.b_range (da_cons d_int da_nil)) (dg_name 7 sc_law_draws.nd) (s_cons (s_if (t_cmp op_gtA o_gt.op (dv 5) d_int) (s_one (s_app 3 rfl (d_bin op_mod o_mod.op (d_callTy call_int1 (o_int) E.b_int bt_int (da_cons (dv 5) da_nil)) d_int))) s_nil) (s_one (s_set 5 sc_law_draws.nd (d_bin op_fdiv o_fdiv.op (dv 5) d_int)))))))))) (l_ret (W := Wno) (f_slo 3 p_none (p_some (dv 2))))))
/-! ### _law_next -/
abbrev s_law_next : Stmt := top 18
abbrev N_law_next : List Str := ["_law_draws_here"]
theorem sc_law_next : FnScope N_law_next ["_law_draws_here"] (defScope s_law_next) := ⟨rfl, rfl, rfl, by decide +kernel, rfl, by decide +kernel, by decide +kernel⟩
def g_law_next : G := (sSeq (sIf (mT (mMap2 (mOwn1 0 lenD) (mC (.int 0)) eqD)) (sRet (mC (.int 0))) sNext) (sRet (mPop0 0)))
def F_law_next : FnM := run 1 g_law_next
theorem ok_law_next (E : Fa K mg ca) (G_law_next : Gv K mg "_law_next" s_law_next ["_law_draws_here"]) : FnOk P w K mg base (L2.CX P w) 1 G_law_next.f G_law_next.fd ["_law_draws_here"] (spF K T ca 1 F_law_next) := by
  refine fn_ok G_law_next.fn sc_law_next rfl rfl (by decide) fun pin O0 H0 cdv A outer s H Ex hr => ?_
  exact (s_cons (s_if (t_cmp (op_eqA hr) (o_eq rfl).op (d_callBo 0 call_len (o_len rfl) E.b_len bt_len) d_int) (s_one (s_ret d_int)) s_nil) (s_one (s_ret (d_pop0 0 rfl))))
/-! ### _law_marks -/
abbrev s_law_marks : Stmt := top 19
abbrev N_law_marks : List Str := ["_law_draw", "_law_k"]
theorem sc_law_marks : FnScope N_law_marks ["_law_draw"] (defScope s_law_marks) := ⟨rfl, rfl, rfl, by decide +kernel, rfl, by decide +kernel, by decide +kernel⟩
def e_law_marks_1 : M D := (mMap2 (mMap (mCons (mC (.str "w")) (mCons (mC (.str "x")) (mCons (mC (.str "y")) mNil))) mkL) (mVar 1) ixD)
def t_law_marks_2 : M Bool := (mT (mMap2 (mMap2 (mMap2 (mVar 0) (mMap2 (mMap (mCons (mC (.int 1)) (mCons (mC (.int 3)) (mCons (mC (.int 9)) mNil))) mkL) (mVar 1) ixD) fdivD) (mC (.int 3)) modD) (mC (.int 1)) eqD))
def g_law_marks : G := (sRet (mMap (mCons (mL (mLc [1] (mMap (mCons (mC (.int 3)) mNil) rng1) (tName 1) t_law_marks_2 e_law_marks_1)) mNil) tupD))
def F_law_marks : FnM := run 2 g_law_marks
theorem ok_law_marks (E : Fa K mg ca) (G_law_marks : Gv K mg "_law_marks" s_law_marks ["_law_draw"]) : FnOk P w K mg base (L2.CX P w) 1 G_law_marks.f G_law_marks.fd ["_law_draw"] (spF K T ca 1 F_law_marks) := by
  refine fn_ok G_law_marks.fn sc_law_marks rfl rfl (by decide) fun pin O0 H0 cdv A outer s H Ex hr => ?_
  exact (s_one (s_ret (d_callTy call_tuple_of ((o_tup rfl).op fun _ _ => one_tup) E.b_tuple bt_tuple (da_cons (d_of (f_lc (own := [("_law_k", 1)]) sc_law_marks.nd (blkOk_by (N := N_law_marks) (sc := defScope s_law_marks) (by decide +kernel)) (di_range1 E.b_range (da_cons d_int da_nil)) (fun _ _ _ _ _ => (dg_name 1 sc_law_marks.nd)) (fun _ _ _ _ _ => dts_one (t_cmp (op_eqA hr) (o_eq rfl).op (d_bin op_mod o_mod.op (d_bin op_fdiv o_fdiv.op (dv 0) (d_ix ix_seq (o_ix rfl) (d_lst (da_cons d_int (da_cons d_int (da_cons d_int da_nil)))) (dv 1))) d_int) d_int)) (fun _ _ _ _ _ => (d_ix ix_seq (o_ix rfl) (d_lst (da_cons d_str (da_cons d_str (da_cons d_str da_nil)))) (dv 1))))) da_nil))))
/-! ### _law_element -/
abbrev s_law_element : Stmt := top 20
abbrev N_law_element : List Str := ["_law_draws_here", "_law_levels", "_law_draw", "_law_children", "_law_k"]
theorem sc_law_element : FnScope N_law_element ["_law_draws_here", "_law_levels"] (defScope s_law_element) := ⟨rfl, rfl, rfl, by decide +kernel, rfl, by decide +kernel, by decide +kernel⟩
def b_law_element_1 (F : FnM) : G := (sApp 3 (mCallO 2 0 F mNil (mCons (mMap2 (mVar 1) (mC (.int 1)) subD) mNil)))
def g_law_element (F : FnM) : G := (sSeq (sAsg (mCallO 1 0 F_law_next mNil mNil) (tName 2)) (sSeq (sOwn 3 (mMap mNil sized)) (sSeq (sIf (mAnd (mT (mMap2 (mVar 1) (mC (.int 0)) gtD)) (mT (mMap2 (mOwn1 0 lenD) (mC (.int 0)) gtD))) (sFor (mMap (mCons (mMap2 (mMap (mCons (mC (.int 0)) (mCons (mC (.int 1)) (mCons (mC (.int 2)) (mCons (mC (.int 3)) (mCons (mC (.int 2)) mNil))))) mkL) (mMap2 (mVar 2) (mC (.int 5)) modD) ixD) mNil) rng1) (tName 4) (b_law_element_1 F)) sNext) (sRet (mMap (mCons (mMap2 (mMap (mCons (mC (.str "a")) (mCons (mC (.str "b")) (mCons (mC (.str "c")) (mCons (mC (.str "d")) mNil)))) mkL) (mMap2 (mMap2 (mVar 2) (mC (.int 5)) fdivD) (mC (.int 4)) modD) ixD) (mCons (mCall 1 F_law_marks (mCons (mMap2 (mVar 2) (mC (.int 20)) fdivD) mNil)) (mCons (mOwn1 3 tupD) mNil))) mkT)))))
def F_law_element : Nat → FnM
  | 0 => fun _ => .bad
  | k + 1 => run 5 (g_law_element (F_law_element k))
theorem ok_law_element (E : Fa K mg ca) (G_law_element : Gv K mg "_law_element" s_law_element ["_law_draws_here", "_law_levels"]) (G_law_marks : Gv K mg "_law_marks" s_law_marks ["_law_draw"]) (P_law_marks : FnOk P w K mg base (L2.CX P w) 1 G_law_marks.f G_law_marks.fd ["_law_draw"] (spF K T ca 1 F_law_marks)) (G_law_next : Gv K mg "_law_next" s_law_next ["_law_draws_here"]) (P_law_next : FnOk P w K mg base (L2.CX P w) 1 G_law_next.f G_law_next.fd ["_law_draws_here"] (spF K T ca 1 F_law_next)) : ∀ n : Nat, FnOk P w K mg base (L2.CX P w) (1 + n) G_law_element.f G_law_element.fd ["_law_draws_here", "_law_levels"] (spF K T ca 2 (F_law_element n))
  | 0 => fn_bad rfl
  | n + 1 => by
    have ih := ok_law_element E G_law_element G_law_marks P_law_marks G_law_next P_law_next n
    refine fn_ok (g := g_law_element (F_law_element n)) G_law_element.fn sc_law_element rfl rfl (by decide) fun pin O0 H0 cdv A outer s H Ex hr => ?_
    have hr : Room (1 + n) _ := hr
    exact (s_cons (s_set 2 sc_law_element.nd (d_callO P_law_next (hr.mono (by omega)) (takes_of rfl rfl rfl rfl) G_law_next.m G_law_next.kp G_law_next.bi (dao_here 0 da_nil))) (s_cons (s_own 3 sc_law_element.nd (f_lst da_nil)) (s_cons (s_if (t_bo (w_and (t_cmp op_gtA o_gt.op (dv 1) d_int) (w_and1 (t_cmp op_gtA o_gt.op (d_callBo 0 call_len (o_len rfl) E.b_len bt_len) d_int)))) (s_one (s_for (passes_of rfl) (di_range1 E.b_range (da_cons (d_ix ix_seq (o_ix rfl) (d_lst (da_cons d_int (da_cons d_int (da_cons d_int (da_cons d_int (da_cons d_int da_nil)))))) (d_bin op_mod o_mod.op (dv 2) d_int)) da_nil)) (dg_name 4 sc_law_element.nd) (s_one (s_app 3 rfl (d_callO ih (hr.mono (by omega)) (takes_of rfl rfl rfl rfl) G_law_element.m G_law_element.kp G_law_element.bi (dao_here 0 (da_cons (d_bin op_sub o_sub.op (dv 1) d_int) da_nil))))))) s_nil) (s_one (s_ret (d_tup (da_cons (d_ix ix_seq (o_ix rfl) (d_lst (da_cons d_str (da_cons d_str (da_cons d_str (da_cons d_str da_nil))))) (d_bin op_mod o_mod.op (d_bin op_fdiv o_fdiv.op (dv 2) d_int) d_int)) (da_cons (d_c G_law_marks P_law_marks (hr.mono (by omega)) (takes_of rfl rfl rfl rfl) (da_cons (d_bin op_fdiv o_fdiv.op (dv 2) d_int) da_nil)) (da_cons (d_callTyo 3 call_tuple_of (o_tup rfl) E.b_tuple bt_tuple) da_nil)))))))))
/-! ### _law_part -/
abbrev s_law_part : Stmt := top 21
abbrev N_law_part : List Str := ["_law_draw", "_law_kind", "_law_marks_here", "_law_nots", "_law_pair"]
theorem sc_law_part : FnScope N_law_part ["_law_draw"] (defScope s_law_part) := ⟨rfl, rfl, rfl, by decide +kernel, rfl, by decide +kernel, by decide +kernel⟩
def g_law_part : G := (sSeq (sAsg (mMap2 (mMap (mCons (mC .none) (mCons (mC .none) (mCons (mC (.str "a")) (mCons (mC (.str "b")) (mCons (mC (.str "c")) mNil))))) mkL) (mMap2 (mVar 0) (mC (.int 5)) modD) ixD) (tName 1)) (sSeq (sAsg (mMap2 (mMap (mCons (mMap mNil mkT) (mCons (mMap mNil mkT) (mCons (mMap (mCons (mC (.str "x")) mNil) mkT) (mCons (mMap (mCons (mC (.str "y")) mNil) mkT) (mCons (mMap (mCons (mC (.str "x")) (mCons (mC (.str "y")) mNil)) mkT) mNil))))) mkL) (mMap2 (mMap2 (mVar 0) (mC (.int 5)) fdivD) (mC (.int 5)) modD) ixD) (tName 2)) (sSeq (sAsg (mMap2 (mMap (mCons (mMap mNil mkT) (mCons (mMap mNil mkT) (mCons (mMap mNil mkT) (mCons (mMap (mCons (mMap (mCons (mC (.str "kind")) (mCons (mC (.str "b")) mNil)) mkT) mNil) mkT) (mCons (mMap (mCons (mMap (mCons (mC (.str "mark")) (mCons (mC (.str "x")) mNil)) mkT) mNil) mkT) (mCons (mMap (mCons (mMap (mCons (mC (.str "kind")) (mCons (mC (.str "a")) mNil)) mkT) (mCons (mMap (mCons (mC (.str "mark")) (mCons (mC (.str "y")) mNil)) mkT) mNil)) mkT) mNil)))))) mkL) (mMap2 (mMap2 (mVar 0) (mC (.int 25)) fdivD) (mC (.int 6)) modD) ixD) (tName 3)) (sSeq (sAsg (mMap2 (mMap (mCons (mMap (mCons (mC (.int 1)) (mCons (mC (.int 0)) mNil)) mkT) (mCons (mMap (mCons (mC (.int 1)) (mCons (mC (.int 0)) mNil)) mkT) (mCons (mMap (mCons (mC (.int 1)) (mCons (mC (.int 0)) mNil)) mkT) (mCons (mMap (mCons (mC (.int 0)) (mCons (mC (.int 1)) mNil)) mkT) (mCons (mMap (mCons (mC (.int 2)) (mCons (mC (.int 1)) mNil)) mkT) (mCons (mMap (mCons (mC (.int 3)) (mCons (mC (.int 2)) mNil)) mkT) (mCons (mMap (mCons (mC (.int 0)) (mCons (mC (.int 2)) mNil)) mkT) (mCons (mMap (mCons (mC (.int 1)) (mCons (mC (.int 2)) mNil)) mkT) mNil)))))))) mkL) (mMap2 (mMap2 (mVar 0) (mC (.int 150)) fdivD) (mC (.int 8)) modD) ixD) (tName 4)) (sRet (mMap (mCons (mVar 1) (mCons (mVar 2) (mCons (mVar 3) (mCons (mMap2 (mVar 4) (mC (.int 0)) ixD) (mCons (mMap2 (mVar 4) (mC (.int 1)) ixD) mNil))))) mkT))))))
def F_law_part : FnM := run 5 g_law_part
theorem ok_law_part (E : Fa K mg ca) (G_law_part : Gv K mg "_law_part" s_law_part ["_law_draw"]) : FnOk P w K mg base (L2.CX P w) 1 G_law_part.f G_law_part.fd ["_law_draw"] (spF K T ca 1 F_law_part) := by
  refine fn_ok G_law_part.fn sc_law_part rfl rfl (by decide) fun pin O0 H0 cdv A outer s H Ex hr => ?_
  exact (s_cons (s_set 1 sc_law_part.nd (d_ix ix_seq (o_ix rfl) (d_lst (da_cons d_non (da_cons d_non (da_cons d_str (da_cons d_str (da_cons d_str da_nil)))))) (d_bin op_mod o_mod.op (dv 0) d_int))) (s_cons (s_set 2 sc_law_part.nd (d_ix ix_seq (o_ix rfl) (d_lst (da_cons (d_tup da_nil) (da_cons (d_tup da_nil) (da_cons (d_tup (da_cons d_str da_nil)) (da_cons (d_tup (da_cons d_str da_nil)) (da_cons (d_tup (da_cons d_str (da_cons d_str da_nil))) da_nil)))))) (d_bin op_mod o_mod.op (d_bin op_fdiv o_fdiv.op (dv 0) d_int) d_int))) (s_cons (s_set 3 sc_law_part.nd (d_ix ix_seq (o_ix rfl) (d_lst (da_cons (d_tup da_nil) (da_cons (d_tup da_nil) (da_cons (d_tup da_nil) (da_cons (d_tup (da_cons (d_tup (da_cons d_str (da_cons d_str da_nil))) da_nil)) (da_cons (d_tup (da_cons (d_tup (da_cons d_str (da_cons d_str da_nil))) da_nil)) (da_cons (d_tup (da_cons (d_tup (da_cons d_str (da_cons d_str da_nil))) (da_cons (d_tup (da_cons d_str (da_cons d_str da_nil))) da_nil))) da_nil))))))) (d_bin op_mod o_mod.op (d_bin op_fdiv o_fdiv.op (dv 0) d_int) d_int))) (s_cons (s_set 4 sc_law_part.nd (d_ix ix_seq (o_ix rfl) (d_lst (da_cons (d_tup (da_cons d_int (da_cons d_int da_nil))) (da_cons (d_tup (da_cons d_int (da_cons d_int da_nil))) (da_cons (d_tup (da_cons d_int (da_cons d_int da_nil))) (da_cons (d_tup (da_cons d_int (da_cons d_int da_nil))) (da_cons (d_tup (da_cons d_int (da_cons d_int da_nil))) (da_cons (d_tup (da_cons d_int (da_cons d_int da_nil))) (da_cons (d_tup (da_cons d_int (da_cons d_int da_nil))) (da_cons (d_tup (da_cons d_int (da_cons d_int da_nil))) da_nil))))))))) (d_bin op_mod o_mod.op (d_bin op_fdiv o_fdiv.op (dv 0) d_int) d_int))) (s_one (s_ret (d_tup (da_cons (dv 1) (da_cons (dv 2) (da_cons (dv 3) (da_cons (d_ix ix_seq (o_ix rfl) (dv 4) d_int) (da_cons (d_ix ix_seq (o_ix rfl) (dv 4) d_int) da_nil))))))))))))
/-! ### _law_selector -/
abbrev s_law_selector : Stmt := top 22
abbrev N_law_selector : List Str := ["_law_draws_here", "_law_most", "_law_parts", "_law_links", "_law_k"]
theorem sc_law_selector : FnScope N_law_selector ["_law_draws_here", "_law_most"] (defScope s_law_selector) := ⟨rfl, rfl, rfl, by decide +kernel, rfl, by decide +kernel, by decide +kernel⟩
def b_law_selector_1 : G := (sSeq (sApp 3 (mMap2 (mMap (mCons (mC (.str "child")) (mCons (mC (.str "inside")) (mCons (mC (.str "next")) (mCons (mC (.str "after")) mNil)))) mkL) (mMap2 (mCallO 1 0 F_law_next mNil mNil) (mC (.int 4)) modD) ixD)) (sApp 2 (mCall 1 F_law_part (mCons (mCallO 1 0 F_law_next mNil mNil) mNil))))
def g_law_selector : G := (sSeq (sOwn 2 (mMap (mCons (mCall 1 F_law_part (mCons (mCallO 1 0 F_law_next mNil mNil) mNil)) mNil) sized)) (sSeq (sOwn 3 (mMap mNil sized)) (sSeq (sFor (mMap (mCons (mMap2 (mCallO 1 0 F_law_next mNil mNil) (mVar 1) modD) mNil) rng1) (tName 4) b_law_selector_1) (sRet (mMap (mCons (mOwn1 2 tupD) (mCons (mOwn1 3 tupD) mNil)) mkT)))))
def F_law_selector : FnM := run 5 g_law_selector
theorem ok_law_selector (E : Fa K mg ca) (G_law_selector : Gv K mg "_law_selector" s_law_selector ["_law_draws_here", "_law_most"]) (G_law_next : Gv K mg "_law_next" s_law_next ["_law_draws_here"]) (P_law_next : FnOk P w K mg base (L2.CX P w) 1 G_law_next.f G_law_next.fd ["_law_draws_here"] (spF K T ca 1 F_law_next)) (G_law_part : Gv K mg "_law_part" s_law_part ["_law_draw"]) (P_law_part : FnOk P w K mg base (L2.CX P w) 1 G_law_part.f G_law_part.fd ["_law_draw"] (spF K T ca 1 F_law_part)) : FnOk P w K mg base (L2.CX P w) 2 G_law_selector.f G_law_selector.fd ["_law_draws_here", "_law_most"] (spF K T ca 2 F_law_selector) := by
  refine fn_ok G_law_selector.fn sc_law_selector rfl rfl (by decide) fun pin O0 H0 cdv A outer s H Ex hr => ?_
  exact (s_cons (s_own 2 sc_law_selector.nd (f_lst (da_cons (d_c G_law_part P_law_part (hr.mono (by omega)) (takes_of rfl rfl rfl rfl) (da_cons (d_callO P_law_next (hr.mono (by omega)) (takes_of rfl rfl rfl rfl) G_law_next.m G_law_next.kp G_law_next.bi (dao_here 0 da_nil)) da_nil)) da_nil))) (s_cons (s_own 3 sc_law_selector.nd (f_lst da_nil)) (s_cons (s_for (passes_of rfl) (di_range1 E.b_range (da_cons (d_bin op_mod o_mod.op (d_callO P_law_next (hr.mono (by omega)) (takes_of rfl rfl rfl rfl) G_law_next.m G_law_next.kp G_law_next.bi (dao_here 0 da_nil)) (dv 1)) da_nil)) (dg_name 4 sc_law_selector.nd) (s_cons (s_app 3 rfl (d_ix ix_seq (o_ix rfl) (d_lst (da_cons d_str (da_cons d_str (da_cons d_str (da_cons d_str da_nil))))) (d_bin op_mod o_mod.op (d_callO P_law_next (hr.mono (by omega)) (takes_of rfl rfl rfl rfl) G_law_next.m G_law_next.kp G_law_next.bi (dao_here 0 da_nil)) d_int))) (s_one (s_app 2 rfl (d_c G_law_part P_law_part (hr.mono (by omega)) (takes_of rfl rfl rfl rfl) (da_cons (d_callO P_law_next (hr.mono (by omega)) (takes_of rfl rfl rfl rfl) G_law_next.m G_law_next.kp G_law_next.bi (dao_here 0 da_nil)) da_nil)))))) (s_one (s_ret (d_tup (da_cons (d_callTyo 2 call_tuple_of (o_tup rfl) E.b_tuple bt_tuple) (da_cons (d_callTyo 3 call_tuple_of (o_tup rfl) E.b_tuple bt_tuple) da_nil))))))))
/-! ### _law_fits -/
abbrev s_law_fits : Stmt := top 23
abbrev N_law_fits : List Str := ["_law_part_here", "_law_element_here", "_law_number", "_law_mark", "_law_test", "_law_n"]
theorem sc_law_fits : FnScope N_law_fits ["_law_part_here", "_law_element_here", "_law_number"] (defScope s_law_fits) := ⟨rfl, rfl, rfl, by decide +kernel, rfl, by decide +kernel, by decide +kernel⟩
def t_law_fits_1 : M Bool := (mT (mMap2 (mVar 3) (mMap2 (mVar 1) (mC (.int 1)) ixD) notInD))
def b_law_fits_2 : G := (sIf (mOr (mT (mMap2 (mVar 4) (mMap (mCons (mC (.str "kind")) (mCons (mMap2 (mVar 1) (mC (.int 0)) ixD) mNil)) mkT) eqD)) (mAnd (mT (mMap2 (mMap2 (mVar 4) (mC (.int 0)) ixD) (mC (.str "mark")) eqD)) (mT (mMap2 (mMap2 (mVar 4) (mC (.int 1)) ixD) (mMap2 (mVar 1) (mC (.int 1)) ixD) inD)))) (sRet (mC (.bool false))) sNext)
def e_law_fits_3 : M D := (mMap2 (mMap2 (mMap2 (mVar 0) (mC (.int 3)) ixD) (mVar 5) mulD) (mMap2 (mVar 0) (mC (.int 4)) ixD) addD)
def g_law_fits : G := (sSeq (sIf (mAnd (mT (mMap2 (mMap2 (mVar 0) (mC (.int 0)) ixD) (mC .none) notNone)) (mT (mMap2 (mMap2 (mVar 0) (mC (.int 0)) ixD) (mMap2 (mVar 1) (mC (.int 0)) ixD) neD))) (sRet (mC (.bool false))) sNext) (sSeq (sIf (mT (mMap2 (mMap (mCons (mL (mLc [3] (mMap (mMap2 (mVar 0) (mC (.int 1)) ixD) items) (tName 3) t_law_fits_1 (mVar 3))) mNil) lenD) (mC (.int 0)) gtD)) (sRet (mC (.bool false))) sNext) (sSeq (sFor (mMap (mMap2 (mVar 0) (mC (.int 2)) ixD) items) (tName 4) b_law_fits_2) (sRet (mMap2 (mVar 2) (mL (mLc [5] (mMap (mCons (mMap2 (mVar 2) (mC (.int 1)) addD) mNil) rng1) (tName 5) mYes e_law_fits_3)) inD)))))
def F_law_fits : FnM := run 6 g_law_fits
theorem ok_law_fits (E : Fa K mg ca) (G_law_fits : Gv K mg "_law_fits" s_law_fits ["_law_part_here", "_law_element_here", "_law_number"]) : FnOk P w K mg base (L2.CX P w) 1 G_law_fits.f G_law_fits.fd ["_law_part_here", "_law_element_here", "_law_number"] (spF K T ca 3 F_law_fits) := by
  refine fn_ok G_law_fits.fn sc_law_fits rfl rfl (by decide) fun pin O0 H0 cdv A outer s H Ex hr => ?_
  exact (s_cons (s_if (t_bo (w_and (t_cmp op_notN o_notN (d_ix ix_seq (o_ix rfl) (dv 0) d_int) d_non) (w_and1 (t_cmp (op_neA hr) (o_ne rfl).op (d_ix ix_seq (o_ix rfl) (dv 0) d_int) (d_ix ix_seq (o_ix rfl) (dv 1) d_int))))) (s_one (s_ret d_bl)) s_nil) (s_cons (s_if (t_cmp op_gtA o_gt.op (d_callB call_len ((o_len rfl).op fun _ _ => one_len) E.b_len bt_len (da_cons (d_of (f_lc (own := [("_law_mark", 3)]) sc_law_fits.nd (blkOk_by (N := N_law_fits) (sc := defScope s_law_fits) (by decide +kernel)) (di_seq (d_ix ix_seq (o_ix rfl) (dv 0) d_int)) (fun _ _ _ _ _ => (dg_name 3 sc_law_fits.nd)) (fun _ _ _ _ _ => dts_one (t_cmp op_notIn_seq (o_notIn rfl).op (dv 3) (d_ix ix_seq (o_ix rfl) (dv 1) d_int))) (fun _ _ _ _ _ => (dv 3)))) da_nil)) d_int) (s_one (s_ret d_bl)) s_nil) (s_cons (s_for (passes_of rfl) (di_seq (d_ix ix_seq (o_ix rfl) (dv 0) d_int)) (dg_name 4 sc_law_fits.nd) (s_one (s_if (t_bo (w_or (t_cmp (op_eqA hr) (o_eq rfl).op (dv 4) (d_tup (da_cons d_str (da_cons (d_ix ix_seq (o_ix rfl) (dv 1) d_int) da_nil)))) (w_or1 (t_bo (w_and (t_cmp (op_eqA hr) (o_eq rfl).op (d_ix ix_seq (o_ix rfl) (dv 4) d_int) d_str) (w_and1 (t_cmp op_in_seq (o_in rfl).op (d_ix ix_seq (o_ix rfl) (dv 4) d_int) (d_ix ix_seq (o_ix rfl) (dv 1) d_int)))))))) (s_one (s_ret d_bl)) s_nil))) (s_one (s_ret (d_cmp op_in_seq (o_in rfl).op (dv 2) (d_of (f_lc (own := [("_law_n", 5)]) sc_law_fits.nd (blkOk_by (N := N_law_fits) (sc := defScope s_law_fits) (by decide +kernel)) (di_range1 E.b_range (da_cons (d_bin op_addA (o_add rfl).op (dv 2) d_int) da_nil)) (fun _ _ _ _ _ => (dg_name 5 sc_law_fits.nd)) (fun _ _ _ _ _ => dts_nil) (fun _ _ _ _ _ => (d_bin op_addA (o_add rfl).op (d_bin op_mulA (o_mul rfl).op (d_ix ix_seq (o_ix rfl) (dv 0) d_int) (dv 5)) (d_ix ix_seq (o_ix rfl) (dv 0) d_int)))))))))))
/-! ### _law_found -/
abbrev s_law_found : Stmt := top 24
abbrev N_law_found : List Str := ["_law_element_here", "_law_number", "_law_parent", "_law_elder", "_law_selector_here", "_law_rows", "_law_parts", "_law_links", "_law_row", "_law_k", "_law_near", "_law_linked", "_law_other", "_law_below", "_law_before"]
theorem sc_law_found : FnScope N_law_found ["_law_element_here", "_law_number", "_law_parent", "_law_elder", "_law_selector_here", "_law_rows"] (defScope s_law_found) := ⟨rfl, rfl, rfl, by decide +kernel, rfl, by decide +kernel, by decide +kernel⟩
def t_law_found_1 : M Bool := (mT (mMap2 (mVar 12) (mMap2 (mVar 9) (mC (.int 1)) subD) ixD))
def b_law_found_2 : G := (sSeq (sAsg (mMap mNil mkL) (tName 10)) (sSeq (sIf (mAnd (mT (mMap2 (mVar 9) (mC (.int 0)) gtD)) (mT (mMap2 (mMap2 (mVar 7) (mMap2 (mVar 9) (mC (.int 1)) subD) ixD) (mC (.str "child")) eqD))) (sAsg (mSl (mVar 2) (mPart none) (mPart (some (mC (.int 1))))) (tName 10)) sNext) (sSeq (sIf (mAnd (mT (mMap2 (mVar 9) (mC (.int 0)) gtD)) (mT (mMap2 (mMap2 (mVar 7) (mMap2 (mVar 9) (mC (.int 1)) subD) ixD) (mC (.str "inside")) eqD))) (sAsg (mVar 2) (tName 10)) sNext) (sSeq (sIf (mAnd (mT (mMap2 (mVar 9) (mC (.int 0)) gtD)) (mT (mMap2 (mMap2 (mVar 7) (mMap2 (mVar 9) (mC (.int 1)) subD) ixD) (mC (.str "next")) eqD))) (sAsg (mSl (mVar 3) (mPart none) (mPart (some (mC (.int 1))))) (tName 10)) sNext) (sSeq (sIf (mAnd (mT (mMap2 (mVar 9) (mC (.int 0)) gtD)) (mT (mMap2 (mMap2 (mVar 7) (mMap2 (mVar 9) (mC (.int 1)) subD) ixD) (mC (.str "after")) eqD))) (sAsg (mVar 3) (tName 10)) sNext) (sSeq (sAsg (mOrV (mMap2 (mVar 9) (mC (.int 0)) eqD) (mMap2 (mMap (mCons (mL (mLc [12] (mMap (mVar 10) items) (tName 12) t_law_found_1 (mVar 12))) mNil) lenD) (mC (.int 0)) gtD)) (tName 11)) (sApp 8 (mAndV (mVar 11) (mCall 3 F_law_fits (mCons (mMap2 (mVar 6) (mVar 9) ixD) (mCons (mVar 0) (mCons (mVar 1) mNil))))))))))))
def b_law_found_3 (F : FnM) : G := (sAsg (mMap2 (mMap (mCons (mCallO 6 5 F (mCons (mMap2 (mMap2 (mVar 0) (mC (.int 2)) ixD) (mVar 9) ixD) (mCons (mMap2 (mVar 9) (mC (.int 1)) addD) (mCons (mVar 13) (mCons (mVar 14) (mCons (mVar 4) mNil))))) mNil) mNil) mkL) (mVar 14) addD) (tName 14))
def g_law_found (F : FnM) : G := (sSeq (sAsg (mMap2 (mVar 4) (mC (.int 0)) ixD) (tName 6)) (sSeq (sAsg (mMap2 (mVar 4) (mC (.int 1)) ixD) (tName 7)) (sSeq (sOwn 8 (mMap mNil sized)) (sSeq (sFor (mMap (mCons (mMap (mCons (mVar 6) mNil) lenD) mNil) rng1) (tName 9) b_law_found_2) (sSeq (sApp 5 (mOwnL 8 (mMap (mC (.int 1)) negD) ixD)) (sFrz 8 (sSeq (sAsg (mMap2 (mMap (mCons (mVar 8) mNil) mkL) (mVar 2) addD) (tName 13)) (sSeq (sAsg (mMap mNil mkL) (tName 14)) (sSeq (sFor (mMap (mCons (mMap (mCons (mMap2 (mVar 0) (mC (.int 2)) ixD) mNil) lenD) mNil) rng1) (tName 9) (b_law_found_3 F)) (sRet (mVar 8)))))))))))
def F_law_found : Nat → FnM
  | 0 => fun _ => .bad
  | k + 1 => run 15 (g_law_found (F_law_found k))
theorem ok_law_found (E : Fa K mg ca) (G_law_found : Gv K mg "_law_found" s_law_found ["_law_element_here", "_law_number", "_law_parent", "_law_elder", "_law_selector_here", "_law_rows"]) (G_law_fits : Gv K mg "_law_fits" s_law_fits ["_law_part_here", "_law_element_here", "_law_number"]) (P_law_fits : FnOk P w K mg base (L2.CX P w) 1 G_law_fits.f G_law_fits.fd ["_law_part_here", "_law_element_here", "_law_number"] (spF K T ca 3 F_law_fits)) : ∀ n : Nat, FnOk P w K mg base (L2.CX P w) (1 + n) G_law_found.f G_law_found.fd ["_law_element_here", "_law_number", "_law_parent", "_law_elder", "_law_selector_here", "_law_rows"] (spF K T ca 6 (F_law_found n))
  | 0 => fn_bad rfl
  | n + 1 => by
    have ih := ok_law_found E G_law_found G_law_fits P_law_fits n
    refine fn_ok (g := g_law_found (F_law_found n)) G_law_found.fn sc_law_found rfl rfl (by decide) fun pin O0 H0 cdv A outer s H Ex hr => ?_
    have hr : Room (1 + n) _ := hr
    exact (s_cons (s_set 6 sc_law_found.nd (d_ix ix_seq (o_ix rfl) (dv 4) d_int)) (s_cons (s_set 7 sc_law_found.nd (d_ix ix_seq (o_ix rfl) (dv 4) d_int)) (s_cons (s_own 8 sc_law_found.nd (f_lst da_nil)) (s_cons (s_for (passes_of rfl) (di_range1 E.b_range (da_cons (d_callB call_len ((o_len rfl).op fun _ _ => one_len) E.b_len bt_len (da_cons (dv 6) da_nil)) da_nil)) (dg_name 9 sc_law_found.nd) (s_cons (s_set 10 sc_law_found.nd (d_lst da_nil)) (s_cons (s_if (t_bo (w_and (t_cmp op_gtA o_gt.op (dv 9) d_int) (w_and1 (t_cmp (op_eqA hr) (o_eq rfl).op (d_ix ix_seq (o_ix rfl) (dv 7) (d_bin op_sub o_sub.op (dv 9) d_int)) d_str)))) (s_one (s_set 10 sc_law_found.nd (d_sl (dv 2) p_none (p_some d_int)))) s_nil) (s_cons (s_if (t_bo (w_and (t_cmp op_gtA o_gt.op (dv 9) d_int) (w_and1 (t_cmp (op_eqA hr) (o_eq rfl).op (d_ix ix_seq (o_ix rfl) (dv 7) (d_bin op_sub o_sub.op (dv 9) d_int)) d_str)))) (s_one (s_set 10 sc_law_found.nd (dv 2))) s_nil) (s_cons (s_if (t_bo (w_and (t_cmp op_gtA o_gt.op (dv 9) d_int) (w_and1 (t_cmp (op_eqA hr) (o_eq rfl).op (d_ix ix_seq (o_ix rfl) (dv 7) (d_bin op_sub o_sub.op (dv 9) d_int)) d_str)))) (s_one (s_set 10 sc_law_found.nd (d_sl (dv 3) p_none (p_some d_int)))) s_nil) (s_cons (s_if (t_bo (w_and (t_cmp op_gtA o_gt.op (dv 9) d_int) (w_and1 (t_cmp (op_eqA hr) (o_eq rfl).op (d_ix ix_seq (o_ix rfl) (dv 7) (d_bin op_sub o_sub.op (dv 9) d_int)) d_str)))) (s_one (s_set 10 sc_law_found.nd (dv 3))) s_nil) (s_cons (s_set 11 sc_law_found.nd (d_or (d_cmp (op_eqA hr) (o_eq rfl).op (dv 9) d_int) (d_one (d_cmp op_gtA o_gt.op (d_callB call_len ((o_len rfl).op fun _ _ => one_len) E.b_len bt_len (da_cons (d_of (f_lc (own := [("_law_other", 12)]) sc_law_found.nd (blkOk_by (N := N_law_found) (sc := defScope s_law_found) (by decide +kernel)) (di_seq (dv 10)) (fun _ _ _ _ _ => (dg_name 12 sc_law_found.nd)) (fun _ _ _ _ _ => dts_one (t_val (d_ix ix_seq (o_ix rfl) (dv 12) (d_bin op_sub o_sub.op (dv 9) d_int)))) (fun _ _ _ _ _ => (dv 12)))) da_nil)) d_int)))) (s_one (s_app 8 rfl (d_and (dv 11) (d_one (d_c G_law_fits P_law_fits (hr.mono (by omega)) (takes_of rfl rfl rfl rfl) (da_cons (d_ix ix_seq (o_ix rfl) (dv 6) (dv 9)) (da_cons (dv 0) (da_cons (dv 1) da_nil))))))))))))))) (s_cons (s_app 5 rfl (d_ixo 8 ix_seq (o_ix rfl) (d_neg d_int))) (ss_frz 8 (s_cons (s_set 13 sc_law_found.nd (d_bin op_addA (o_add rfl).op (d_lst (da_cons (dv 8) da_nil)) (dv 2))) (s_cons (s_set 14 sc_law_found.nd (d_lst da_nil)) (s_cons (s_for (passes_of rfl) (di_range1 E.b_range (da_cons (d_callB call_len ((o_len rfl).op fun _ _ => one_len) E.b_len bt_len (da_cons (d_ix ix_seq (o_ix rfl) (dv 0) d_int) da_nil)) da_nil)) (dg_name 9 sc_law_found.nd) (s_one (s_set 14 sc_law_found.nd (d_bin op_addA (o_add rfl).op (d_lst (da_cons (d_callO ih (hr.mono (by omega)) (takes_of rfl rfl rfl rfl) G_law_found.m G_law_found.kp G_law_found.bi (dao_cons (d_ix ix_seq (o_ix rfl) (d_ix ix_seq (o_ix rfl) (dv 0) d_int) (dv 9)) (dao_cons (d_bin op_addA (o_add rfl).op (dv 9) d_int) (dao_cons (dv 13) (dao_cons (dv 14) (dao_cons (dv 4) (dao_here 5 da_nil))))))) da_nil)) (dv 14))))) (s_one (s_ret (dv 8))))))))))))
/-! ### _law_matched -/
abbrev s_law_matched : Stmt := top 25
abbrev N_law_matched : List Str := ["_law_document", "_law_selector_here", "_law_rows"]
theorem sc_law_matched : FnScope N_law_matched ["_law_document", "_law_selector_here"] (defScope s_law_matched) := ⟨rfl, rfl, rfl, by decide +kernel, rfl, by decide +kernel, by decide +kernel⟩
def g_law_matched : G := (sSeq (sOwn 2 (mMap mNil sized)) (sSeq (sDrop (mCallO 6 2 (F_law_found 7) (mCons (mVar 0) (mCons (mC (.int 1)) (mCons (mMap mNil mkL) (mCons (mMap mNil mkL) (mCons (mVar 1) mNil))))) mNil)) (sFrz 2 (sRet (mVar 2)))))
def F_law_matched : FnM := run 3 g_law_matched
theorem ok_law_matched (E : Fa K mg ca) (G_law_matched : Gv K mg "_law_matched" s_law_matched ["_law_document", "_law_selector_here"]) (G_law_found : Gv K mg "_law_found" s_law_found ["_law_element_here", "_law_number", "_law_parent", "_law_elder", "_law_selector_here", "_law_rows"]) (P_law_found : FnOk P w K mg base (L2.CX P w) 8 G_law_found.f G_law_found.fd ["_law_element_here", "_law_number", "_law_parent", "_law_elder", "_law_selector_here", "_law_rows"] (spF K T ca 6 (F_law_found 7))) : FnOk P w K mg base (L2.CX P w) 9 G_law_matched.f G_law_matched.fd ["_law_document", "_law_selector_here"] (spF K T ca 2 F_law_matched) := by
  refine fn_ok G_law_matched.fn sc_law_matched rfl rfl (by decide) fun pin O0 H0 cdv A outer s H Ex hr => ?_
  exact (s_cons (s_own 2 sc_law_matched.nd (f_lst da_nil)) (s_cons (s_expr (d_callO P_law_found (hr.mono (by omega)) (takes_of rfl rfl rfl rfl) G_law_found.m G_law_found.kp G_law_found.bi (dao_cons (dv 0) (dao_cons d_int (dao_cons (d_lst da_nil) (dao_cons (d_lst da_nil) (dao_cons (dv 1) (dao_here 2 da_nil)))))))) (ss_frz 2 (s_one (s_ret (dv 2))))))
/-! ### _law_missing -/
abbrev s_law_missing : Stmt := top 26
abbrev N_law_missing : List Str := ["_law_document", "_law_selector_here"]
theorem sc_law_missing : FnScope N_law_missing ["_law_document", "_law_selector_here"] (defScope s_law_missing) := ⟨rfl, rfl, rfl, by decide +kernel, rfl, by decide +kernel, by decide +kernel⟩
def g_law_missing : G := (sSeq (sTry exm_BadPlace (sDrop (mCall 3 F_matches (mCons (mVar 0) (mCons (mMap (mCons (mMap (mCons (mMap2 (mVar 0) (mC (.int 2)) ixD) mNil) lenD) mNil) mkT) (mCons (mVar 1) mNil))))) (sRet (mC (.bool true)))) (sRet (mC (.bool false))))
def F_law_missing : FnM := run 2 g_law_missing
theorem ok_law_missing (E : Fa K mg ca) (G_law_missing : Gv K mg "_law_missing" s_law_missing ["_law_document", "_law_selector_here"]) (G_matches : Gv K mg "matches" s_matches ["document", "place", "selector"]) (P_matches : FnOk P w K mg base (L2.CX P w) 8 G_matches.f G_matches.fd ["document", "place", "selector"] (spF K T ca 3 F_matches)) : FnOk P w K mg base (L2.CX P w) 9 G_law_missing.f G_law_missing.fd ["_law_document", "_law_selector_here"] (spF K T ca 2 F_law_missing) := by
  refine fn_ok G_law_missing.fn sc_law_missing rfl rfl (by decide) fun pin O0 H0 cdv A outer s H Ex hr => ?_
  exact (s_cons (s_try (exm := exm_BadPlace) ⟨rfl, by decide, .inl E.x_BadPlace.g⟩ E.h_BadPlace (takes_of rfl rfl rfl rfl) (fun _ _ _ tk1 hp1 => (s_one (s_expr (d_c G_matches P_matches (hr.mono (by omega)) tk1 (da_cons (dv 0) (da_cons (d_tup (da_cons (d_callB call_len ((o_len rfl).op fun _ _ => one_len) E.b_len bt_len (da_cons (d_ix ix_seq (o_ix rfl) (dv 0) d_int) da_nil)) da_nil)) (da_cons (dv 1) da_nil))))))) (fun _ _ _ => (s_one (s_ret d_bl)))) (s_one (s_ret d_bl)))
/-! ### law -/
abbrev s_law : Stmt := top 27
abbrev N_law : List Str := ["_law_script", "_law_draws_here", "_law_selectors", "_law_k", "_law_document", "_law_rows", "_law_tables", "_law_selector_here", "_law_at", "_law_actual", "_law_expected", "_law_table"]
theorem sc_law : FnScope N_law ["_law_script"] (defScope s_law) := ⟨rfl, rfl, rfl, by decide +kernel, rfl, by decide +kernel, by decide +kernel⟩
def e_law_1 : M D := (mCallO 2 1 F_law_selector mNil (mCons (mC (.int 4)) mNil))
def e_law_2 : M D := (mCall 2 F_law_matched (mCons (mVar 4) (mCons (mVar 7) mNil)))
def b_law_3 : G := (sSeq (sAsg (mCall 3 F_matches (mCons (mVar 4) (mCons (mMap2 (mVar 5) (mVar 8) ixD) (mCons (mMap2 (mVar 2) (mVar 3) ixD) mNil)))) (tName 9)) (sIf (mOr (mNot (mT (mMap (mVar 9) (isiD "bool")))) (mT (mMap2 (mVar 9) (mMap2 (mMap2 (mVar 6) (mVar 3) ixD) (mVar 8) ixD) neD))) (sRet (mC (.bool false))) sNext))
def b_law_4 : G := (sFor (mMap (mCons (mMap (mCons (mVar 5) mNil) lenD) mNil) rng1) (tName 8) b_law_3)
def e_law_5 : M D := (mMap2 (mVar 11) (mVar 8) ixD)
def e_law_6 : M D := (mMap2 (mVar 5) (mVar 8) ixD)
def t_law_7 : M Bool := (mT (mMap2 (mC (.bool true)) (mL (mLc [11] (mMap (mVar 6) items) (tName 11) mYes e_law_5)) inD))
def g_law : G := (sSeq (sOwn 1 (mCallL 3 F_law_draws (mCons (mVar 0) (mCons (mC (.int 0)) (mCons (mC (.int 100)) mNil))))) (sSeq (sAsg (mMap (mCons (mL (mLc [3] (mMap (mCons (mMap2 (mC (.int 1)) (mMap2 (mCallO 1 1 F_law_next mNil mNil) (mC (.int 3)) modD) addD) mNil) rng1) (tName 3) mYes e_law_1)) mNil) tupD) (tName 2)) (sSeq (sAsg (mCallO 2 1 (F_law_element 6) mNil (mCons (mC (.int 4)) mNil)) (tName 4)) (sSeq (sAsg (mCall 1 (F_places 7) (mCons (mVar 4) mNil)) (tName 5)) (sSeq (sAsg (mL (mLc [7] (mMap (mVar 2) items) (tName 7) mYes e_law_2)) (tName 6)) (sSeq (sFor (mMap (mCons (mMap (mCons (mVar 2) mNil) lenD) mNil) rng1) (tName 3) b_law_4) (sSeq (sAsg (mL (mLc [8] (mMap (mCons (mMap (mCons (mVar 5) mNil) lenD) mNil) rng1) (tName 8) t_law_7 e_law_6)) (tName 10)) (sRet (mAndV (mMap2 (mCall 2 F_matching (mCons (mVar 4) (mCons (mVar 2) mNil))) (mVar 10) eqD) (mAndV (mMap2 (mCall 2 F_matching (mCons (mVar 4) (mCons (mMap mNil mkT) mNil))) (mMap mNil mkL) eqD) (mCall 2 F_law_missing (mCons (mVar 4) (mCons (mMap2 (mVar 2) (mC (.int 0)) ixD) mNil)))))))))))))
def F_law : FnM := run 12 g_law
theorem ok_law (E : Fa K mg ca) (G_law : Gv K mg "law" s_law ["_law_script"]) (G_law_draws : Gv K mg "_law_draws" s_law_draws ["_law_script", "_law_start", "_law_most"]) (P_law_draws : FnOk P w K mg base (L2.CX P w) 1 G_law_draws.f G_law_draws.fd ["_law_script", "_law_start", "_law_most"] (spL K T 3 F_law_draws)) (G_law_element : Gv K mg "_law_element" s_law_element ["_law_draws_here", "_law_levels"]) (P_law_element : FnOk P w K mg base (L2.CX P w) 7 G_law_element.f G_law_element.fd ["_law_draws_here", "_law_levels"] (spF K T ca 2 (F_law_element 6))) (G_law_matched : Gv K mg "_law_matched" s_law_matched ["_law_document", "_law_selector_here"]) (P_law_matched : FnOk P w K mg base (L2.CX P w) 9 G_law_matched.f G_law_matched.fd ["_law_document", "_law_selector_here"] (spF K T ca 2 F_law_matched)) (G_law_missing : Gv K mg "_law_missing" s_law_missing ["_law_document", "_law_selector_here"]) (P_law_missing : FnOk P w K mg base (L2.CX P w) 9 G_law_missing.f G_law_missing.fd ["_law_document", "_law_selector_here"] (spF K T ca 2 F_law_missing)) (G_law_next : Gv K mg "_law_next" s_law_next ["_law_draws_here"]) (P_law_next : FnOk P w K mg base (L2.CX P w) 1 G_law_next.f G_law_next.fd ["_law_draws_here"] (spF K T ca 1 F_law_next)) (G_law_selector : Gv K mg "_law_selector" s_law_selector ["_law_draws_here", "_law_most"]) (P_law_selector : FnOk P w K mg base (L2.CX P w) 2 G_law_selector.f G_law_selector.fd ["_law_draws_here", "_law_most"] (spF K T ca 2 F_law_selector)) (G_matches : Gv K mg "matches" s_matches ["document", "place", "selector"]) (P_matches : FnOk P w K mg base (L2.CX P w) 8 G_matches.f G_matches.fd ["document", "place", "selector"] (spF K T ca 3 F_matches)) (G_matching : Gv K mg "matching" s_matching ["document", "selectors"]) (P_matching : FnOk P w K mg base (L2.CX P w) 12 G_matching.f G_matching.fd ["document", "selectors"] (spF K T ca 2 F_matching)) (G_places : Gv K mg "places" s_places ["document"]) (P_places : FnOk P w K mg base (L2.CX P w) 7 G_places.f G_places.fd ["document"] (spF K T ca 1 (F_places 7))) : FnOk P w K mg base (L2.CX P w) 13 G_law.f G_law.fd ["_law_script"] (spF K T ca 1 F_law) := by
  refine fn_ok G_law.fn sc_law rfl rfl (by decide) fun pin O0 H0 cdv A outer s H Ex hr => ?_
  exact (s_cons (s_own 1 sc_law.nd (f_c G_law_draws P_law_draws (hr.mono (by omega)) (takes_of rfl rfl rfl rfl) (da_cons (dv 0) (da_cons d_int (da_cons d_int da_nil))))) (s_cons (s_set 2 sc_law.nd (d_callTy call_tuple_of ((o_tup rfl).op fun _ _ => one_tup) E.b_tuple bt_tuple (da_cons (d_of (f_lc (own := [("_law_k", 3)]) sc_law.nd (blkOk_by (N := N_law) (sc := defScope s_law) (by decide +kernel)) (di_range1 E.b_range (da_cons (d_bin op_addA (o_add rfl).op d_int (d_bin op_mod o_mod.op (d_callO P_law_next (hr.mono (by omega)) (takes_of rfl rfl rfl rfl) G_law_next.m G_law_next.kp G_law_next.bi (dao_here 1 da_nil)) d_int)) da_nil)) (fun _ _ _ _ _ => (dg_name 3 sc_law.nd)) (fun _ _ _ _ _ => dts_nil) (fun _ _ _ _ _ => (d_callO P_law_selector (hr.mono (by omega)) takes_no G_law_selector.m G_law_selector.kp G_law_selector.bi (dao_here 1 (da_cons d_int da_nil)))))) da_nil))) (s_cons (s_set 4 sc_law.nd (d_callO P_law_element (hr.mono (by omega)) (takes_of rfl rfl rfl rfl) G_law_element.m G_law_element.kp G_law_element.bi (dao_here 1 (da_cons d_int da_nil)))) (s_cons (s_set 5 sc_law.nd (d_c G_places P_places (hr.mono (by omega)) (takes_of rfl rfl rfl rfl) (da_cons (dv 4) da_nil))) (s_cons (s_set 6 sc_law.nd (d_of (f_lc (own := [("_law_selector_here", 7)]) sc_law.nd (blkOk_by (N := N_law) (sc := defScope s_law) (by decide +kernel)) (di_seq (dv 2)) (fun _ _ _ _ _ => (dg_name 7 sc_law.nd)) (fun _ _ _ _ _ => dts_nil) (fun _ _ _ _ _ => (d_c G_law_matched P_law_matched (hr.mono (by omega)) takes_no (da_cons (dv 4) (da_cons (dv 7) da_nil))))))) (s_cons (s_for (passes_of rfl) (di_range1 E.b_range (da_cons (d_callB call_len ((o_len rfl).op fun _ _ => one_len) E.b_len bt_len (da_cons (dv 2) da_nil)) da_nil)) (dg_name 3 sc_law.nd) (s_one (s_for (passes_of rfl) (di_range1 E.b_range (da_cons (d_callB call_len ((o_len rfl).op fun _ _ => one_len) E.b_len bt_len (da_cons (dv 5) da_nil)) da_nil)) (dg_name 8 sc_law.nd) (s_cons (s_set 9 sc_law.nd (d_c G_matches P_matches (hr.mono (by omega)) (takes_of rfl rfl rfl rfl) (da_cons (dv 4) (da_cons (d_ix ix_seq (o_ix rfl) (dv 5) (dv 8)) (da_cons (d_ix ix_seq (o_ix rfl) (dv 2) (dv 3)) da_nil))))) (s_one (s_if (t_bo (w_or (t_not (t_val (d_isi (dv 9) E.b_isinstance bt_isinstance E.b_bool bt_bool))) (w_or1 (t_cmp (op_neA hr) (o_ne rfl).op (dv 9) (d_ix ix_seq (o_ix rfl) (d_ix ix_seq (o_ix rfl) (dv 6) (dv 3)) (dv 8)))))) (s_one (s_ret d_bl)) s_nil)))))) (s_cons (s_setLc 10 (own := [("_law_at", 8)]) sc_law.nd (blkOk_by (N := N_law) (sc := defScope s_law) (by decide +kernel)) (di_range1 E.b_range (da_cons (d_callB call_len ((o_len rfl).op fun _ _ => one_len) E.b_len bt_len (da_cons (dv 5) da_nil)) da_nil)) (fun _ _ _ _ _ => (dg_name 8 sc_law.nd)) (fun _ _ _ _ _ => dts_one (t_cmp op_in_seq (o_in rfl).op d_bl (d_of (f_lc (own := [("_law_table", 11)]) sc_law.nd (blkOk_by (N := N_law) (by kernel_rfl)) (di_seq (dv 6)) (fun _ _ _ _ _ => (dg_name 11 sc_law.nd)) (fun _ _ _ _ _ => dts_nil) (fun _ _ _ _ _ => (d_ix ix_seq (o_ix rfl) (dv 11) (dv 8))))))) (fun _ _ _ _ _ => (d_ix ix_seq (o_ix rfl) (dv 5) (dv 8)))) (s_one (s_ret (d_and (d_cmp (op_eqA hr) (o_eq rfl).op (d_c G_matching P_matching (hr.mono (by omega)) (takes_of rfl rfl rfl rfl) (da_cons (dv 4) (da_cons (dv 2) da_nil))) (dv 10)) (d_and (d_cmp (op_eqA hr) (o_eq rfl).op (d_c G_matching P_matching (hr.mono (by omega)) (takes_of rfl rfl rfl rfl) (da_cons (dv 4) (da_cons (d_tup da_nil) da_nil))) (d_lst da_nil)) (d_one (d_c G_law_missing P_law_missing (hr.mono (by omega)) (takes_of rfl rfl rfl rfl) (da_cons (dv 4) (da_cons (d_ix ix_seq (o_ix rfl) (dv 2) d_int) da_nil)))))))))))))))
end
end DL

namespace DL
open PySem PySem.Spec L2
/-! ### element_at, places -/
theorem el_for {doc pl : D} : ∀ (p : List Nat) (e : El) (z : Sl), NO z → (match e.at p with
    | some x => ∃ z', forG (tName 3) b_element_at_1 (p.map nat) [.dat doc, .dat pl, .dat (eD e), z] = .nx [.dat doc, .dat pl, .dat (eD x), z']
    | none => ∃ x z', forG (tName 3) b_element_at_1 (p.map nat) [.dat doc, .dat pl, .dat (eD e), z] = .err "BadPlace" [.dat doc, .dat pl, x, z'])
  | [], e, z, _ => by rw [at_nil]; exact ⟨z, rfl⟩
  | i :: p, e, z, hz => by
    have e1 : tName 3 (nat i) [.dat doc, .dat pl, .dat (eD e), z] = some [.dat doc, .dat pl, .dat (eD e), .dat (nat i)] := set_no hz rfl
    rw [at_cons]
    by_cases h : i < e.c.length
    · have h' : ¬ (e.c.length : Int) ≤ (i : Int) := by omega
      have hx : (e.c.map eD)[i]? = some (eD e.c[i]) := by rw [List.getElem?_map, List.getElem?_eq_getElem h]; rfl
      have e2 : b_element_at_1 [.dat doc, .dat pl, .dat (eD e), .dat (nat i)] = .nx [.dat doc, .dat pl, .dat (eD e.c[i]), .dat (nat i)] := by
        unfold b_element_at_1
        simp only [mVar, mC, mMap, mMap2, lift_some, lift_none, bind_ok, bind_err, bind_bad, mCons, mNil, mT, asB_bool, asB, mAnd, mOr, mNot, andV_eq, orV_eq, mNotV, mIf, chain_eq, chK_b, mCall, sSeq, sNext, sIf, sRet, sRetN, sDrop, sAsg, sRaise, sFor, sApp, sOwn, setO, ownAt, mOwn1, mPop0, sFrz, frz, sAug, ex_ok, ex_err, ex_bad, then_nx, then_ret, then_brk, then_ct, then_err, optG_some, optG_none, tName, setD, tTupG, tsCons, tsNil, Option.bind_some, List.getElem?_cons_zero, List.getElem?_cons_succ, List.set_cons_zero, List.set_cons_succ, List.length_cons, List.length_nil, Bool.not_true, Bool.not_false, Bool.false_eq_true, if_true, if_false, reduceIte, List.map_cons, List.map_nil, List.cons_append, List.nil_append, List.replicate, Nat.reduceSub, Nat.reduceAdd, Nat.reduceEqDiff, Option.map_some, Option.map_none, outs, Int.reduceAdd, Int.reduceSub, Int.reduceBEq, Int.reduceLT, Int.reduceLE, decide_true, decide_false, beq_self_eq_true, cast_0, cast_1, cast_2, cast_3, cast_4, cast_5, isi_str, isi_tup, addD_i, addI_i, subD_i, leD_i, leD_s, ltD_i, ltD_s, gtD_i, geD_i, eqD_i, neD_i, eqD_b, neD_b, eqD_s, lenD_l, lenD_t, absD_i, intD_i, tupD_l, tupD_t, lstD_l, lstD_t, mkT_0, mkT_1, mkT_2, mkT_3, mkL_0, mkL_1, sized_0, sized_1, ix_0, ix_1, ix_2, isT_t, isT_s, isT_l, isT_i, isT_n, isS_s, isS_t, isS_l, isS_i, isS_n, neD_s, Kd.inj, Mk.inj, Lk.inj, s_km, s_mk, List.length_append, L_c, L_i, L_n, L_a, L_cc, L_ic, L_ii, L_nc, L_ni, L_nn, L_ac, L_ai, L_an, L_aa, eD_2, List.length_map, h', ix_nat hx]
      have ih := el_for (doc := doc) (pl := pl) p e.c[i] (.dat (nat i)) trivial
      rw [List.getElem?_eq_getElem h, Option.bind_some, List.map_cons, for_nx e1 e2]
      exact ih
    · have h' : (e.c.length : Int) ≤ (i : Int) := by omega
      have e2 : b_element_at_1 [.dat doc, .dat pl, .dat (eD e), .dat (nat i)] = .err "BadPlace" [.dat doc, .dat pl, .dat (eD e), .dat (nat i)] := by
        unfold b_element_at_1
        simp only [mVar, mC, mMap, mMap2, lift_some, lift_none, bind_ok, bind_err, bind_bad, mCons, mNil, mT, asB_bool, asB, mAnd, mOr, mNot, andV_eq, orV_eq, mNotV, mIf, chain_eq, chK_b, mCall, sSeq, sNext, sIf, sRet, sRetN, sDrop, sAsg, sRaise, sFor, sApp, sOwn, setO, ownAt, mOwn1, mPop0, sFrz, frz, sAug, ex_ok, ex_err, ex_bad, then_nx, then_ret, then_brk, then_ct, then_err, optG_some, optG_none, tName, setD, tTupG, tsCons, tsNil, Option.bind_some, List.getElem?_cons_zero, List.getElem?_cons_succ, List.set_cons_zero, List.set_cons_succ, List.length_cons, List.length_nil, Bool.not_true, Bool.not_false, Bool.false_eq_true, if_true, if_false, reduceIte, List.map_cons, List.map_nil, List.cons_append, List.nil_append, List.replicate, Nat.reduceSub, Nat.reduceAdd, Nat.reduceEqDiff, Option.map_some, Option.map_none, outs, Int.reduceAdd, Int.reduceSub, Int.reduceBEq, Int.reduceLT, Int.reduceLE, decide_true, decide_false, beq_self_eq_true, cast_0, cast_1, cast_2, cast_3, cast_4, cast_5, isi_str, isi_tup, addD_i, addI_i, subD_i, leD_i, leD_s, ltD_i, ltD_s, gtD_i, geD_i, eqD_i, neD_i, eqD_b, neD_b, eqD_s, lenD_l, lenD_t, absD_i, intD_i, tupD_l, tupD_t, lstD_l, lstD_t, mkT_0, mkT_1, mkT_2, mkT_3, mkL_0, mkL_1, sized_0, sized_1, ix_0, ix_1, ix_2, isT_t, isT_s, isT_l, isT_i, isT_n, isS_s, isS_t, isS_l, isS_i, isS_n, neD_s, Kd.inj, Mk.inj, Lk.inj, s_km, s_mk, List.length_append, L_c, L_i, L_n, L_a, L_cc, L_ic, L_ii, L_nc, L_ni, L_nn, L_ac, L_ai, L_an, L_aa, eD_2, List.length_map, h']
      rw [List.getElem?_eq_none (by omega), Option.bind_none, List.map_cons]
      exact ⟨_, _, for_err e1 e2⟩
theorem element_at_some {e x : El} {p : List Nat} (h : e.at p = some x) : F_element_at [.dat (eD e), .dat (plD p)] = .ok (eD x) [.dat (eD e), .dat (plD p)] := by
  have q := el_for (doc := eD e) (pl := plD p) p e .un trivial
  rw [h] at q
  obtain ⟨z', q⟩ := q
  have hc : items (plD p) = some (p.map nat) := rfl
  refine run_x (s := ?_) (st := [.dat (eD e), .dat (plD p), .un, .un]) ?_ ?_
  rotate_left
  · unfold g_element_at
    simp only [mVar, mC, mMap, mMap2, lift_some, lift_none, bind_ok, bind_err, bind_bad, mCons, mNil, mT, asB_bool, asB, mAnd, mOr, mNot, andV_eq, orV_eq, mNotV, mIf, chain_eq, chK_b, mCall, sSeq, sNext, sIf, sRet, sRetN, sDrop, sAsg, sRaise, sFor, sApp, sOwn, setO, ownAt, mOwn1, mPop0, sFrz, frz, sAug, ex_ok, ex_err, ex_bad, then_nx, then_ret, then_brk, then_ct, then_err, optG_some, optG_none, tName, setD, tTupG, tsCons, tsNil, Option.bind_some, List.getElem?_cons_zero, List.getElem?_cons_succ, List.set_cons_zero, List.set_cons_succ, List.length_cons, List.length_nil, Bool.not_true, Bool.not_false, Bool.false_eq_true, if_true, if_false, reduceIte, List.map_cons, List.map_nil, List.cons_append, List.nil_append, List.replicate, Nat.reduceSub, Nat.reduceAdd, Nat.reduceEqDiff, Option.map_some, Option.map_none, outs, Int.reduceAdd, Int.reduceSub, Int.reduceBEq, Int.reduceLT, Int.reduceLE, decide_true, decide_false, beq_self_eq_true, cast_0, cast_1, cast_2, cast_3, cast_4, cast_5, isi_str, isi_tup, addD_i, addI_i, subD_i, leD_i, leD_s, ltD_i, ltD_s, gtD_i, geD_i, eqD_i, neD_i, eqD_b, neD_b, eqD_s, lenD_l, lenD_t, absD_i, intD_i, tupD_l, tupD_t, lstD_l, lstD_t, mkT_0, mkT_1, mkT_2, mkT_3, mkL_0, mkL_1, sized_0, sized_1, ix_0, ix_1, ix_2, isT_t, isT_s, isT_l, isT_i, isT_n, isS_s, isS_t, isS_l, isS_i, isS_n, neD_s, Kd.inj, Mk.inj, Lk.inj, s_km, s_mk, List.length_append, L_c, L_i, L_n, L_a, L_cc, L_ic, L_ii, L_nc, L_ni, L_nn, L_ac, L_ai, L_an, L_aa, hc]
    rw [q]
    simp only [mVar, mC, mMap, mMap2, lift_some, lift_none, bind_ok, bind_err, bind_bad, mCons, mNil, mT, asB_bool, asB, mAnd, mOr, mNot, andV_eq, orV_eq, mNotV, mIf, chain_eq, chK_b, mCall, sSeq, sNext, sIf, sRet, sRetN, sDrop, sAsg, sRaise, sFor, sApp, sOwn, setO, ownAt, mOwn1, mPop0, sFrz, frz, sAug, ex_ok, ex_err, ex_bad, then_nx, then_ret, then_brk, then_ct, then_err, optG_some, optG_none, tName, setD, tTupG, tsCons, tsNil, Option.bind_some, List.getElem?_cons_zero, List.getElem?_cons_succ, List.set_cons_zero, List.set_cons_succ, List.length_cons, List.length_nil, Bool.not_true, Bool.not_false, Bool.false_eq_true, if_true, if_false, reduceIte, List.map_cons, List.map_nil, List.cons_append, List.nil_append, List.replicate, Nat.reduceSub, Nat.reduceAdd, Nat.reduceEqDiff, Option.map_some, Option.map_none, outs, Int.reduceAdd, Int.reduceSub, Int.reduceBEq, Int.reduceLT, Int.reduceLE, decide_true, decide_false, beq_self_eq_true, cast_0, cast_1, cast_2, cast_3, cast_4, cast_5, isi_str, isi_tup, addD_i, addI_i, subD_i, leD_i, leD_s, ltD_i, ltD_s, gtD_i, geD_i, eqD_i, neD_i, eqD_b, neD_b, eqD_s, lenD_l, lenD_t, absD_i, intD_i, tupD_l, tupD_t, lstD_l, lstD_t, mkT_0, mkT_1, mkT_2, mkT_3, mkL_0, mkL_1, sized_0, sized_1, ix_0, ix_1, ix_2, isT_t, isT_s, isT_l, isT_i, isT_n, isS_s, isS_t, isS_l, isS_i, isS_n, neD_s, Kd.inj, Mk.inj, Lk.inj, s_km, s_mk, List.length_append, L_c, L_i, L_n, L_a, L_cc, L_ic, L_ii, L_nc, L_ni, L_nn, L_ac, L_ai, L_an, L_aa]
    rfl
  · rfl
theorem element_at_none {e : El} {p : List Nat} (h : e.at p = none) : F_element_at [.dat (eD e), .dat (plD p)] = .err "BadPlace" [.dat (eD e), .dat (plD p)] := by
  have q := el_for (doc := eD e) (pl := plD p) p e .un trivial
  rw [h] at q
  obtain ⟨x, z', q⟩ := q
  have hc : items (plD p) = some (p.map nat) := rfl
  refine run_xe (s := ?_) (st := [.dat (eD e), .dat (plD p), .un, .un]) ?_ ?_
  rotate_left
  · unfold g_element_at
    simp only [mVar, mC, mMap, mMap2, lift_some, lift_none, bind_ok, bind_err, bind_bad, mCons, mNil, mT, asB_bool, asB, mAnd, mOr, mNot, andV_eq, orV_eq, mNotV, mIf, chain_eq, chK_b, mCall, sSeq, sNext, sIf, sRet, sRetN, sDrop, sAsg, sRaise, sFor, sApp, sOwn, setO, ownAt, mOwn1, mPop0, sFrz, frz, sAug, ex_ok, ex_err, ex_bad, then_nx, then_ret, then_brk, then_ct, then_err, optG_some, optG_none, tName, setD, tTupG, tsCons, tsNil, Option.bind_some, List.getElem?_cons_zero, List.getElem?_cons_succ, List.set_cons_zero, List.set_cons_succ, List.length_cons, List.length_nil, Bool.not_true, Bool.not_false, Bool.false_eq_true, if_true, if_false, reduceIte, List.map_cons, List.map_nil, List.cons_append, List.nil_append, List.replicate, Nat.reduceSub, Nat.reduceAdd, Nat.reduceEqDiff, Option.map_some, Option.map_none, outs, Int.reduceAdd, Int.reduceSub, Int.reduceBEq, Int.reduceLT, Int.reduceLE, decide_true, decide_false, beq_self_eq_true, cast_0, cast_1, cast_2, cast_3, cast_4, cast_5, isi_str, isi_tup, addD_i, addI_i, subD_i, leD_i, leD_s, ltD_i, ltD_s, gtD_i, geD_i, eqD_i, neD_i, eqD_b, neD_b, eqD_s, lenD_l, lenD_t, absD_i, intD_i, tupD_l, tupD_t, lstD_l, lstD_t, mkT_0, mkT_1, mkT_2, mkT_3, mkL_0, mkL_1, sized_0, sized_1, ix_0, ix_1, ix_2, isT_t, isT_s, isT_l, isT_i, isT_n, isS_s, isS_t, isS_l, isS_i, isS_n, neD_s, Kd.inj, Mk.inj, Lk.inj, s_km, s_mk, List.length_append, L_c, L_i, L_n, L_a, L_cc, L_ic, L_ii, L_nc, L_ni, L_nn, L_ac, L_ai, L_an, L_aa, hc]
    rw [q]
    simp only [mVar, mC, mMap, mMap2, lift_some, lift_none, bind_ok, bind_err, bind_bad, mCons, mNil, mT, asB_bool, asB, mAnd, mOr, mNot, andV_eq, orV_eq, mNotV, mIf, chain_eq, chK_b, mCall, sSeq, sNext, sIf, sRet, sRetN, sDrop, sAsg, sRaise, sFor, sApp, sOwn, setO, ownAt, mOwn1, mPop0, sFrz, frz, sAug, ex_ok, ex_err, ex_bad, then_nx, then_ret, then_brk, then_ct, then_err, optG_some, optG_none, tName, setD, tTupG, tsCons, tsNil, Option.bind_some, List.getElem?_cons_zero, List.getElem?_cons_succ, List.set_cons_zero, List.set_cons_succ, List.length_cons, List.length_nil, Bool.not_true, Bool.not_false, Bool.false_eq_true, if_true, if_false, reduceIte, List.map_cons, List.map_nil, List.cons_append, List.nil_append, List.replicate, Nat.reduceSub, Nat.reduceAdd, Nat.reduceEqDiff, Option.map_some, Option.map_none, outs, Int.reduceAdd, Int.reduceSub, Int.reduceBEq, Int.reduceLT, Int.reduceLE, decide_true, decide_false, beq_self_eq_true, cast_0, cast_1, cast_2, cast_3, cast_4, cast_5, isi_str, isi_tup, addD_i, addI_i, subD_i, leD_i, leD_s, ltD_i, ltD_s, gtD_i, geD_i, eqD_i, neD_i, eqD_b, neD_b, eqD_s, lenD_l, lenD_t, absD_i, intD_i, tupD_l, tupD_t, lstD_l, lstD_t, mkT_0, mkT_1, mkT_2, mkT_3, mkL_0, mkL_1, sized_0, sized_1, ix_0, ix_1, ix_2, isT_t, isT_s, isT_l, isT_i, isT_n, isS_s, isS_t, isS_l, isS_i, isS_n, neD_s, Kd.inj, Mk.inj, Lk.inj, s_km, s_mk, List.length_append, L_c, L_i, L_n, L_a, L_cc, L_ic, L_ii, L_nc, L_ni, L_nn, L_ac, L_ai, L_an, L_aa]
    rfl
  · rfl
theorem placesF_range : ∀ (c : List El) (i : Nat), placesF i c = (List.range c.length).flatMap fun k => match c[k]? with
    | some e => (places e).map ((i + k) :: ·)
    | none => []
  | [], i => rfl
  | e :: r, i => by
    rw [placesF, List.length_cons, List.range_succ_eq_map, List.flatMap_cons, List.flatMap_map, placesF_range r (i + 1)]
    congr 1
    refine congrArg List.flatten (List.map_congr_left fun k _ => ?_)
    show _ = (match (e :: r)[k + 1]? with | some e => (places e).map ((i + (k + 1)) :: ·) | none => [])
    rw [List.getElem?_cons_succ, show i + 1 + k = i + (k + 1) by omega]
mutual
theorem places_lt : ∀ (e : El) (p : List Nat), p ∈ places e → p.length < e.dep
  | .mk k m c, p, h => by
    rw [places] at h
    rw [El.dep]
    rcases List.mem_cons.mp h with h | h
    · rw [h]; exact Nat.succ_pos _
    · exact Nat.lt_succ_of_le (placesF_lt 0 c p h)
theorem placesF_lt : ∀ (i : Nat) (c : List El) (p : List Nat), p ∈ placesF i c → p.length ≤ deps c
  | _, [], p, h => by rw [placesF] at h; cases h
  | i, e :: r, p, h => by
    rw [placesF] at h
    rw [deps]
    rcases List.mem_append.mp h with h | h
    · obtain ⟨q, hq, rfl⟩ := List.mem_map.mp h
      have := places_lt e q hq
      rw [List.length_cons]
      omega
    · have := placesF_lt (i + 1) r p h
      omega
end
theorem szs_len : ∀ c : List El, c.length ≤ szs c
  | [] => Nat.le_refl _
  | a :: r => by rw [szs, List.length_cons, a.sz_eq]; have := szs_len r; omega
theorem szs_mem {x : El} : ∀ {c : List El}, x ∈ c → x.sz ≤ szs c
  | [], h => by cases h
  | a :: r, h => by
    rw [szs]
    rcases List.mem_cons.mp h with h | h
    · rw [h]; omega
    · have := szs_mem h; omega
theorem pl_inner {e : D} {k : Nat} : ∀ (ps acc : List (List Nat)) (z : Sl), NO z → acc.length + ps.length ≤ 1900000 → (∀ p ∈ ps, p.length ≤ 1000) →
    ∃ z', NO z' ∧ forG (tName 3) b_places_1 (ps.map plD) [.dat e, .own (acc.map plD), .dat (nat k), z] = .nx [.dat e, .own ((acc ++ ps.map (k :: ·)).map plD), .dat (nat k), z']
  | [], acc, z, hz, _, _ => ⟨z, hz, by rw [List.map_nil, List.map_nil, List.append_nil]; rfl⟩
  | p :: r, acc, z, hz, hl, hp => by
    rw [List.length_cons] at hl
    have e1 : tName 3 (plD p) [.dat e, .own (acc.map plD), .dat (nat k), z] = some [.dat e, .own (acc.map plD), .dat (nat k), .dat (plD p)] := set_no hz rfl
    have hp1 := hp p List.mem_cons_self
    have ad : addD (.tuple [nat k]) (plD p) = some (plD (k :: p)) := addT_sm (by rw [List.length_map, List.length_singleton]; omega)
    have hsz : (acc.map plD).length < sizeLine := by rw [List.length_map]; exact Nat.lt_of_lt_of_le (by omega : acc.length < 2000000) (by decide)
    have e2 : b_places_1 [.dat e, .own (acc.map plD), .dat (nat k), .dat (plD p)] = .nx [.dat e, .own ((acc ++ [k :: p]).map plD), .dat (nat k), .dat (plD p)] := by
      unfold b_places_1
      simp only [mVar, mC, mMap, mMap2, lift_some, lift_none, bind_ok, bind_err, bind_bad, mCons, mNil, mT, asB_bool, asB, mAnd, mOr, mNot, andV_eq, orV_eq, mNotV, mIf, chain_eq, chK_b, mCall, sSeq, sNext, sIf, sRet, sRetN, sDrop, sAsg, sRaise, sFor, sApp, sOwn, setO, ownAt, mOwn1, mPop0, sFrz, frz, sAug, ex_ok, ex_err, ex_bad, then_nx, then_ret, then_brk, then_ct, then_err, optG_some, optG_none, tName, setD, tTupG, tsCons, tsNil, Option.bind_some, List.getElem?_cons_zero, List.getElem?_cons_succ, List.set_cons_zero, List.set_cons_succ, List.length_cons, List.length_nil, Bool.not_true, Bool.not_false, Bool.false_eq_true, if_true, if_false, reduceIte, List.map_cons, List.map_nil, List.cons_append, List.nil_append, List.replicate, Nat.reduceSub, Nat.reduceAdd, Nat.reduceEqDiff, Option.map_some, Option.map_none, outs, Int.reduceAdd, Int.reduceSub, Int.reduceBEq, Int.reduceLT, Int.reduceLE, decide_true, decide_false, beq_self_eq_true, cast_0, cast_1, cast_2, cast_3, cast_4, cast_5, isi_str, isi_tup, addD_i, addI_i, subD_i, leD_i, leD_s, ltD_i, ltD_s, gtD_i, geD_i, eqD_i, neD_i, eqD_b, neD_b, eqD_s, lenD_l, lenD_t, absD_i, intD_i, tupD_l, tupD_t, lstD_l, lstD_t, mkT_0, mkT_1, mkT_2, mkT_3, mkL_0, mkL_1, sized_0, sized_1, ix_0, ix_1, ix_2, isT_t, isT_s, isT_l, isT_i, isT_n, isS_s, isS_t, isS_l, isS_i, isS_n, neD_s, Kd.inj, Mk.inj, Lk.inj, s_km, s_mk, List.length_append, L_c, L_i, L_n, L_a, L_cc, L_ic, L_ii, L_nc, L_ni, L_nn, L_ac, L_ai, L_an, L_aa, ad, hsz, List.map_append]
    obtain ⟨z', hz', q⟩ := pl_inner (e := e) (k := k) r (acc ++ [k :: p]) (.dat (plD p)) trivial (by rw [List.length_append, List.length_singleton]; omega) fun q hq => hp q (List.mem_cons_of_mem _ hq)
    refine ⟨z', hz', ?_⟩
    rw [List.map_cons, for_nx e1 e2, q, List.append_assoc]
    rfl
def kidPl (c : List El) (k : Nat) : List (List Nat) := match c[k]? with
  | some e => (places e).map (k :: ·)
  | none => []
theorem pl_outer {e : El} {F : FnM} (hF : ∀ x ∈ e.c, F [.dat (eD x)] = .ok (.list ((places x).map plD)) [.dat (eD x)] ∧ (places x).length ≤ 1000 ∧ ∀ p ∈ places x, p.length ≤ 1000) :
    ∀ (ks : List Nat) (acc : List (List Nat)) (z2 z3 : Sl), NO z2 → NO z3 → acc.length + 1000 * ks.length ≤ 1900000 → (∀ k ∈ ks, k < e.c.length) →
    ∃ z2' z3', NO z2' ∧ NO z3' ∧ forG (tName 2) (b_places_2 F) (ks.map nat) [.dat (eD e), .own (acc.map plD), z2, z3] = .nx [.dat (eD e), .own ((acc ++ ks.flatMap (kidPl e.c)).map plD), z2', z3']
  | [], acc, z2, z3, h2, h3, _, _ => ⟨z2, z3, h2, h3, by rw [List.map_nil, List.flatMap_nil, List.append_nil]; rfl⟩
  | k :: r, acc, z2, z3, h2, h3, hl, hk => by
    rw [List.length_cons] at hl
    have hk1 := hk k List.mem_cons_self
    have hx : e.c[k]? = some e.c[k] := List.getElem?_eq_getElem hk1
    have hx' : (e.c.map eD)[k]? = some (eD e.c[k]) := by rw [List.getElem?_map, hx]; rfl
    obtain ⟨q1, q2, q3⟩ := hF e.c[k] (List.getElem_mem hk1)
    have e1 : tName 2 (nat k) [.dat (eD e), .own (acc.map plD), z2, z3] = some [.dat (eD e), .own (acc.map plD), .dat (nat k), z3] := set_no h2 rfl
    obtain ⟨z', hz', q4⟩ := pl_inner (e := eD e) (k := k) (places e.c[k]) acc z3 h3 (by omega) q3
    have hc : items (.list ((places e.c[k]).map plD)) = some ((places e.c[k]).map plD) := rfl
    have e2 : b_places_2 F [.dat (eD e), .own (acc.map plD), .dat (nat k), z3] = .nx [.dat (eD e), .own ((acc ++ (places e.c[k]).map (k :: ·)).map plD), .dat (nat k), z'] := by
      rw [← q4]
      unfold b_places_2
      have hE2 := eD_2 e
      simp only [mVar, mC, mMap, mMap2, lift_some, lift_none, bind_ok, bind_err, bind_bad, mCons, mNil, mT, asB_bool, asB, mAnd, mOr, mNot, andV_eq, orV_eq, mNotV, mIf, chain_eq, chK_b, mCall, sSeq, sNext, sIf, sRet, sRetN, sDrop, sAsg, sRaise, sFor, sApp, sOwn, setO, ownAt, mOwn1, mPop0, sFrz, frz, sAug, ex_ok, ex_err, ex_bad, then_nx, then_ret, then_brk, then_ct, then_err, optG_some, optG_none, tName, setD, tTupG, tsCons, tsNil, Option.bind_some, List.getElem?_cons_zero, List.getElem?_cons_succ, List.set_cons_zero, List.set_cons_succ, List.length_cons, List.length_nil, Bool.not_true, Bool.not_false, Bool.false_eq_true, if_true, if_false, reduceIte, List.map_cons, List.map_nil, List.cons_append, List.nil_append, List.replicate, Nat.reduceSub, Nat.reduceAdd, Nat.reduceEqDiff, Option.map_some, Option.map_none, outs, Int.reduceAdd, Int.reduceSub, Int.reduceBEq, Int.reduceLT, Int.reduceLE, decide_true, decide_false, beq_self_eq_true, cast_0, cast_1, cast_2, cast_3, cast_4, cast_5, isi_str, isi_tup, addD_i, addI_i, subD_i, leD_i, leD_s, ltD_i, ltD_s, gtD_i, geD_i, eqD_i, neD_i, eqD_b, neD_b, eqD_s, lenD_l, lenD_t, absD_i, intD_i, tupD_l, tupD_t, lstD_l, lstD_t, mkT_0, mkT_1, mkT_2, mkT_3, mkL_0, mkL_1, sized_0, sized_1, ix_0, ix_1, ix_2, isT_t, isT_s, isT_l, isT_i, isT_n, isS_s, isS_t, isS_l, isS_i, isS_n, neD_s, Kd.inj, Mk.inj, Lk.inj, s_km, s_mk, List.length_append, L_c, L_i, L_n, L_a, L_cc, L_ic, L_ii, L_nc, L_ni, L_nn, L_ac, L_ai, L_an, L_aa, hE2, ix_nat hx', q1, hc]
    obtain ⟨y2, y3, k2, k3, q⟩ := pl_outer (e := e) (F := F) hF r (acc ++ (places e.c[k]).map (k :: ·)) (.dat (nat k)) z' trivial hz' (by rw [List.length_append, List.length_map]; omega) fun q hq => hk q (List.mem_cons_of_mem _ hq)
    refine ⟨y2, y3, k2, k3, ?_⟩
    rw [List.map_cons, for_nx e1 e2, q, List.append_assoc, List.flatMap_cons]
    unfold kidPl
    rw [hx]
theorem places_eq : ∀ (n : Nat) (e : El), e.dep ≤ n → n ≤ 1000 → e.sz ≤ 1000 → F_places n [.dat (eD e)] = .ok (.list ((places e).map plD)) [.dat (eD e)]
  | 0, e, h, _, _ => by rw [e.dep_eq] at h; omega
  | n + 1, e, h, hn, hs => by
    rw [e.sz_eq] at hs
    rw [e.dep_eq] at h
    have hlen := szs_len e.c
    have kid : ∀ x ∈ e.c, F_places n [.dat (eD x)] = .ok (.list ((places x).map plD)) [.dat (eD x)] ∧ (places x).length ≤ 1000 ∧ ∀ p ∈ places x, p.length ≤ 1000 := fun x hx => by
      have hz := szs_mem hx
      have hd := deps_le.mp (Nat.le_of_succ_le_succ h) x hx
      refine ⟨places_eq n x hd (by omega) (by omega), by rw [places_len]; omega, fun p hp => ?_⟩
      have := places_lt x p hp
      omega
    obtain ⟨z2, z3, _, _, q⟩ := pl_outer (e := e) (F := F_places n) kid (List.range e.c.length) [[]] .un .un trivial trivial (by rw [List.length_singleton, List.length_range]; omega) fun k hk => List.mem_range.mp hk
    have hr : rng1 [nat e.c.length] = some ((List.range e.c.length).map nat) := rng_nat (by omega)
    have hp : places e = [[]] ++ (List.range e.c.length).flatMap (kidPl e.c) := by
      rw [places_eq', placesF_range]
      show _ :: _ = _ :: _
      congr 1
      refine congrArg List.flatten (List.map_congr_left fun k _ => ?_)
      unfold kidPl
      rw [Nat.zero_add]
    rw [hp]
    show run 4 (g_places (F_places n)) _ = _
    refine run_x (s := ?_) (st := [.dat (eD e), .un, .un, .un]) ?_ ?_
    rotate_left
    · unfold g_places
      have hE2 := eD_2 e
      have hm : (([[]] : List (List Nat)).map plD) = [.tuple []] := rfl
      rw [hm] at q
      simp only [mVar, mC, mMap, mMap2, lift_some, lift_none, bind_ok, bind_err, bind_bad, mCons, mNil, mT, asB_bool, asB, mAnd, mOr, mNot, andV_eq, orV_eq, mNotV, mIf, chain_eq, chK_b, mCall, sSeq, sNext, sIf, sRet, sRetN, sDrop, sAsg, sRaise, sFor, sApp, sOwn, setO, ownAt, mOwn1, mPop0, sFrz, frz, sAug, ex_ok, ex_err, ex_bad, then_nx, then_ret, then_brk, then_ct, then_err, optG_some, optG_none, tName, setD, tTupG, tsCons, tsNil, Option.bind_some, List.getElem?_cons_zero, List.getElem?_cons_succ, List.set_cons_zero, List.set_cons_succ, List.length_cons, List.length_nil, Bool.not_true, Bool.not_false, Bool.false_eq_true, if_true, if_false, reduceIte, List.map_cons, List.map_nil, List.cons_append, List.nil_append, List.replicate, Nat.reduceSub, Nat.reduceAdd, Nat.reduceEqDiff, Option.map_some, Option.map_none, outs, Int.reduceAdd, Int.reduceSub, Int.reduceBEq, Int.reduceLT, Int.reduceLE, decide_true, decide_false, beq_self_eq_true, cast_0, cast_1, cast_2, cast_3, cast_4, cast_5, isi_str, isi_tup, addD_i, addI_i, subD_i, leD_i, leD_s, ltD_i, ltD_s, gtD_i, geD_i, eqD_i, neD_i, eqD_b, neD_b, eqD_s, lenD_l, lenD_t, absD_i, intD_i, tupD_l, tupD_t, lstD_l, lstD_t, mkT_0, mkT_1, mkT_2, mkT_3, mkL_0, mkL_1, sized_0, sized_1, ix_0, ix_1, ix_2, isT_t, isT_s, isT_l, isT_i, isT_n, isS_s, isS_t, isS_l, isS_i, isS_n, neD_s, Kd.inj, Mk.inj, Lk.inj, s_km, s_mk, List.length_append, L_c, L_i, L_n, L_a, L_cc, L_ic, L_ii, L_nc, L_ni, L_nn, L_ac, L_ai, L_an, L_aa, hE2, List.length_map, hr, q]
      rfl
    · rfl
/-! ### numbers -/
theorem fits_number_eq (s f n : Nat) : F_fits_number [.dat (nat s), .dat (nat f), .dat (nat n)] = .ok (.bool (fitsN s f n)) [.dat (nat s), .dat (nat f), .dat (nat n)] := by
  refine run_of (st := [.dat (nat s), .dat (nat f), .dat (nat n)]) ⟨[.dat (nat s), .dat (nat f), .dat (nat n)], ?_, rfl⟩
  unfold g_fits_number fitsN
  by_cases h : s = 0
  · subst h
    have hb : ((n : Int) == (f : Int)) = (n == f) := by
      rw [Bool.eq_iff_iff, beq_iff_eq, beq_iff_eq]; omega
    simp only [mVar, mC, mMap, mMap2, lift_some, lift_none, bind_ok, bind_err, bind_bad, mCons, mNil, mT, asB_bool, asB, mAnd, mOr, mNot, andV_eq, orV_eq, mNotV, mIf, chain_eq, chK_b, mCall, sSeq, sNext, sIf, sRet, sRetN, sDrop, sAsg, sRaise, sFor, sApp, sOwn, setO, ownAt, mOwn1, mPop0, sFrz, frz, sAug, ex_ok, ex_err, ex_bad, then_nx, then_ret, then_brk, then_ct, then_err, optG_some, optG_none, tName, setD, tTupG, tsCons, tsNil, Option.bind_some, List.getElem?_cons_zero, List.getElem?_cons_succ, List.set_cons_zero, List.set_cons_succ, List.length_cons, List.length_nil, Bool.not_true, Bool.not_false, Bool.false_eq_true, if_true, if_false, reduceIte, List.map_cons, List.map_nil, List.cons_append, List.nil_append, List.replicate, Nat.reduceSub, Nat.reduceAdd, Nat.reduceEqDiff, Option.map_some, Option.map_none, outs, Int.reduceAdd, Int.reduceSub, Int.reduceBEq, Int.reduceLT, Int.reduceLE, decide_true, decide_false, beq_self_eq_true, cast_0, cast_1, cast_2, cast_3, cast_4, cast_5, isi_str, isi_tup, addD_i, addI_i, subD_i, leD_i, leD_s, ltD_i, ltD_s, gtD_i, geD_i, eqD_i, neD_i, eqD_b, neD_b, eqD_s, lenD_l, lenD_t, absD_i, intD_i, tupD_l, tupD_t, lstD_l, lstD_t, mkT_0, mkT_1, mkT_2, mkT_3, mkL_0, mkL_1, sized_0, sized_1, ix_0, ix_1, ix_2, isT_t, isT_s, isT_l, isT_i, isT_n, isS_s, isS_t, isS_l, isS_i, isS_n, neD_s, Kd.inj, Mk.inj, Lk.inj, s_km, s_mk, List.length_append, L_c, L_i, L_n, L_a, L_cc, L_ic, L_ii, L_nc, L_ni, L_nn, L_ac, L_ai, L_an, L_aa, hb]
  · have h' : ((s : Int) == 0) = false := by rw [beq_eq_false_iff_ne]; omega
    by_cases hf : f ≤ n
    · have hf' : (f : Int) ≤ (n : Int) := by omega
      have hm : modD (.int ((n : Int) - (f : Int))) (nat s) = some (nat ((n - f) % s)) := by
        rw [modD_k (by omega), show (n : Int) - (f : Int) = ((n - f : Nat) : Int) by omega]
        rfl
      have hb : ((((n - f) % s : Nat) : Int) == 0) = ((n - f) % s == 0) := by
        rw [Bool.eq_iff_iff, beq_iff_eq, beq_iff_eq]; omega
      simp only [mVar, mC, mMap, mMap2, lift_some, lift_none, bind_ok, bind_err, bind_bad, mCons, mNil, mT, asB_bool, asB, mAnd, mOr, mNot, andV_eq, orV_eq, mNotV, mIf, chain_eq, chK_b, mCall, sSeq, sNext, sIf, sRet, sRetN, sDrop, sAsg, sRaise, sFor, sApp, sOwn, setO, ownAt, mOwn1, mPop0, sFrz, frz, sAug, ex_ok, ex_err, ex_bad, then_nx, then_ret, then_brk, then_ct, then_err, optG_some, optG_none, tName, setD, tTupG, tsCons, tsNil, Option.bind_some, List.getElem?_cons_zero, List.getElem?_cons_succ, List.set_cons_zero, List.set_cons_succ, List.length_cons, List.length_nil, Bool.not_true, Bool.not_false, Bool.false_eq_true, if_true, if_false, reduceIte, List.map_cons, List.map_nil, List.cons_append, List.nil_append, List.replicate, Nat.reduceSub, Nat.reduceAdd, Nat.reduceEqDiff, Option.map_some, Option.map_none, outs, Int.reduceAdd, Int.reduceSub, Int.reduceBEq, Int.reduceLT, Int.reduceLE, decide_true, decide_false, beq_self_eq_true, cast_0, cast_1, cast_2, cast_3, cast_4, cast_5, isi_str, isi_tup, addD_i, addI_i, subD_i, leD_i, leD_s, ltD_i, ltD_s, gtD_i, geD_i, eqD_i, neD_i, eqD_b, neD_b, eqD_s, lenD_l, lenD_t, absD_i, intD_i, tupD_l, tupD_t, lstD_l, lstD_t, mkT_0, mkT_1, mkT_2, mkT_3, mkL_0, mkL_1, sized_0, sized_1, ix_0, ix_1, ix_2, isT_t, isT_s, isT_l, isT_i, isT_n, isS_s, isS_t, isS_l, isS_i, isS_n, neD_s, Kd.inj, Mk.inj, Lk.inj, s_km, s_mk, List.length_append, L_c, L_i, L_n, L_a, L_cc, L_ic, L_ii, L_nc, L_ni, L_nn, L_ac, L_ai, L_an, L_aa, h', h, hf, hf', hm, hb, Bool.true_and]
    · have hf' : ¬ (f : Int) ≤ (n : Int) := by omega
      simp only [mVar, mC, mMap, mMap2, lift_some, lift_none, bind_ok, bind_err, bind_bad, mCons, mNil, mT, asB_bool, asB, mAnd, mOr, mNot, andV_eq, orV_eq, mNotV, mIf, chain_eq, chK_b, mCall, sSeq, sNext, sIf, sRet, sRetN, sDrop, sAsg, sRaise, sFor, sApp, sOwn, setO, ownAt, mOwn1, mPop0, sFrz, frz, sAug, ex_ok, ex_err, ex_bad, then_nx, then_ret, then_brk, then_ct, then_err, optG_some, optG_none, tName, setD, tTupG, tsCons, tsNil, Option.bind_some, List.getElem?_cons_zero, List.getElem?_cons_succ, List.set_cons_zero, List.set_cons_succ, List.length_cons, List.length_nil, Bool.not_true, Bool.not_false, Bool.false_eq_true, if_true, if_false, reduceIte, List.map_cons, List.map_nil, List.cons_append, List.nil_append, List.replicate, Nat.reduceSub, Nat.reduceAdd, Nat.reduceEqDiff, Option.map_some, Option.map_none, outs, Int.reduceAdd, Int.reduceSub, Int.reduceBEq, Int.reduceLT, Int.reduceLE, decide_true, decide_false, beq_self_eq_true, cast_0, cast_1, cast_2, cast_3, cast_4, cast_5, isi_str, isi_tup, addD_i, addI_i, subD_i, leD_i, leD_s, ltD_i, ltD_s, gtD_i, geD_i, eqD_i, neD_i, eqD_b, neD_b, eqD_s, lenD_l, lenD_t, absD_i, intD_i, tupD_l, tupD_t, lstD_l, lstD_t, mkT_0, mkT_1, mkT_2, mkT_3, mkL_0, mkL_1, sized_0, sized_1, ix_0, ix_1, ix_2, isT_t, isT_s, isT_l, isT_i, isT_n, isS_s, isS_t, isS_l, isS_i, isS_n, neD_s, Kd.inj, Mk.inj, Lk.inj, s_km, s_mk, List.length_append, L_c, L_i, L_n, L_a, L_cc, L_ic, L_ii, L_nc, L_ni, L_nn, L_ac, L_ai, L_an, L_aa, h', h, hf, hf', Bool.false_and]
theorem number_of_eq (p : List Nat) : F_number_of [.dat (plD p)] = .ok (nat (numOf p)) [.dat (plD p)] := by
  refine run_of (st := [.dat (plD p)]) ⟨[.dat (plD p)], ?_, rfl⟩
  unfold g_number_of numOf
  rcases List.eq_nil_or_concat p with rfl | ⟨q, i, rfl⟩
  · have h : plD [] = .tuple [] := rfl
    simp only [mVar, mC, mMap, mMap2, lift_some, lift_none, bind_ok, bind_err, bind_bad, mCons, mNil, mT, asB_bool, asB, mAnd, mOr, mNot, andV_eq, orV_eq, mNotV, mIf, chain_eq, chK_b, mCall, sSeq, sNext, sIf, sRet, sRetN, sDrop, sAsg, sRaise, sFor, sApp, sOwn, setO, ownAt, mOwn1, mPop0, sFrz, frz, sAug, ex_ok, ex_err, ex_bad, then_nx, then_ret, then_brk, then_ct, then_err, optG_some, optG_none, tName, setD, tTupG, tsCons, tsNil, Option.bind_some, List.getElem?_cons_zero, List.getElem?_cons_succ, List.set_cons_zero, List.set_cons_succ, List.length_cons, List.length_nil, Bool.not_true, Bool.not_false, Bool.false_eq_true, if_true, if_false, reduceIte, List.map_cons, List.map_nil, List.cons_append, List.nil_append, List.replicate, Nat.reduceSub, Nat.reduceAdd, Nat.reduceEqDiff, Option.map_some, Option.map_none, outs, Int.reduceAdd, Int.reduceSub, Int.reduceBEq, Int.reduceLT, Int.reduceLE, decide_true, decide_false, beq_self_eq_true, cast_0, cast_1, cast_2, cast_3, cast_4, cast_5, isi_str, isi_tup, addD_i, addI_i, subD_i, leD_i, leD_s, ltD_i, ltD_s, gtD_i, geD_i, eqD_i, neD_i, eqD_b, neD_b, eqD_s, lenD_l, lenD_t, absD_i, intD_i, tupD_l, tupD_t, lstD_l, lstD_t, mkT_0, mkT_1, mkT_2, mkT_3, mkL_0, mkL_1, sized_0, sized_1, ix_0, ix_1, ix_2, isT_t, isT_s, isT_l, isT_i, isT_n, isS_s, isS_t, isS_l, isS_i, isS_n, neD_s, Kd.inj, Mk.inj, Lk.inj, s_km, s_mk, List.length_append, L_c, L_i, L_n, L_a, L_cc, L_ic, L_ii, L_nc, L_ni, L_nn, L_ac, L_ai, L_an, L_aa, h, List.getLast?_nil]
    rfl
  · rw [List.concat_eq_append, List.getLast?_append]
    have h : plD (q ++ [i]) = .tuple (q.map nat ++ [nat i]) := by unfold plD; rw [List.map_append]; rfl
    have h0 : ((((q.map nat).length + 1 : Nat) : Int) == 0) = false := by rw [beq_eq_false_iff_ne]; omega
    have hn : negD (.int 1) = some (.int (-1)) := rfl
    simp only [mVar, mC, mMap, mMap2, lift_some, lift_none, bind_ok, bind_err, bind_bad, mCons, mNil, mT, asB_bool, asB, mAnd, mOr, mNot, andV_eq, orV_eq, mNotV, mIf, chain_eq, chK_b, mCall, sSeq, sNext, sIf, sRet, sRetN, sDrop, sAsg, sRaise, sFor, sApp, sOwn, setO, ownAt, mOwn1, mPop0, sFrz, frz, sAug, ex_ok, ex_err, ex_bad, then_nx, then_ret, then_brk, then_ct, then_err, optG_some, optG_none, tName, setD, tTupG, tsCons, tsNil, Option.bind_some, List.getElem?_cons_zero, List.getElem?_cons_succ, List.set_cons_zero, List.set_cons_succ, List.length_cons, List.length_nil, Bool.not_true, Bool.not_false, Bool.false_eq_true, if_true, if_false, reduceIte, List.map_cons, List.map_nil, List.cons_append, List.nil_append, List.replicate, Nat.reduceSub, Nat.reduceAdd, Nat.reduceEqDiff, Option.map_some, Option.map_none, outs, Int.reduceAdd, Int.reduceSub, Int.reduceBEq, Int.reduceLT, Int.reduceLE, decide_true, decide_false, beq_self_eq_true, cast_0, cast_1, cast_2, cast_3, cast_4, cast_5, isi_str, isi_tup, addD_i, addI_i, subD_i, leD_i, leD_s, ltD_i, ltD_s, gtD_i, geD_i, eqD_i, neD_i, eqD_b, neD_b, eqD_s, lenD_l, lenD_t, absD_i, intD_i, tupD_l, tupD_t, lstD_l, lstD_t, mkT_0, mkT_1, mkT_2, mkT_3, mkL_0, mkL_1, sized_0, sized_1, ix_0, ix_1, ix_2, isT_t, isT_s, isT_l, isT_i, isT_n, isS_s, isS_t, isS_l, isS_i, isS_n, neD_s, Kd.inj, Mk.inj, Lk.inj, s_km, s_mk, List.length_append, L_c, L_i, L_n, L_a, L_cc, L_ic, L_ii, L_nc, L_ni, L_nn, L_ac, L_ai, L_an, L_aa, h, List.length_append, h0, hn, ix_last]
    rfl
end DL

namespace DL
open PySem PySem.Spec L2
/-! ### fits -/
theorem kind_step (p : Part) (k : Kd) {s : Sts} (h0 : s[0]? = some (.dat (pD p))) (h1 : s[1]? = some (.dat (kD k))) :
    sIf (mAnd (mT (mMap2 (mMap2 (mVar 0) (mC (.int 0)) ixD) (mC .none) notNone)) (mT (mMap2 (mMap2 (mVar 0) (mC (.int 0)) ixD) (mVar 1) neD))) (sRet (mC (.bool false))) sNext s = if kOk p.k k = true then .nx s else .ret (.bool false) s := by
  have e0 : mVar 0 s = .ok (pD p) s := by unfold mVar; rw [h0]
  have e1 : mVar 1 s = .ok (kD k) s := by unfold mVar; rw [h1]
  have q := pD_0 p
  cases hk : p.k with
  | none =>
    rw [hk] at q
    have n0 : notNone (okD none) .none = some (.bool false) := rfl
    simp only [sIf, mAnd, mT, mMap2, mMap, mC, e0, e1, bind_ok, q, n0, lift_some, asB, ex_ok, Bool.false_eq_true, if_false, kOk, if_true, sNext]
  | some q' =>
    rw [hk] at q
    have n0 : notNone (okD (some q')) .none = some (.bool true) := rfl
    have n1 : neD (okD (some q')) (kD k) = some (.bool (!(q' == k))) := neD_k q' k
    have sy : (k == q') = (q' == k) := by cases k <;> cases q' <;> rfl
    rcases two (q' == k) with h | h <;>
    simp only [sIf, mAnd, mT, mMap2, mMap, mC, e0, e1, bind_ok, q, n0, n1, lift_some, asB, ex_ok, Bool.false_eq_true, if_false, kOk, sy, h, if_true, sNext, sRet, Bool.not_true, Bool.not_false]
abbrev fS (p : Part) (k : Kd) (ms : List Mk) (n : Nat) (r : Sts) : Sts := .dat (pD p) :: .dat (kD k) :: .dat (msD ms) :: .dat (nat n) :: r
theorem fits_eq (p : Part) (k : Kd) (ms : List Mk) (n : Nat) : F_fits [.dat (pD p), .dat (kD k), .dat (msD ms), .dat (nat n)] = .ok (.bool (fits p k ms n)) [.dat (pD p), .dat (kD k), .dat (msD ms), .dat (nat n)] := by
  have l1 := for_ret_list (t := tName 4) (body := b_fits_1) mD (.bool false) (fun m => !ms.contains m) (fun s => ∃ z, NO z ∧ s = fS p k ms n [z, .un, .un]) (fun s => ∃ r, s = fS p k ms n r)
    p.m (fS p k ms n [.un, .un, .un]) ⟨.un, no_un, rfl⟩ fun m _ s ⟨z, hz, hs⟩ => by
      subst hs
      refine ⟨_, set_no hz rfl, fun h => ⟨fS p k ms n [.dat (mD m), .un, .un], ?_, _, no_dat _, rfl⟩, fun h => ⟨fS p k ms n [.dat (mD m), .un, .un], ?_, _, rfl⟩⟩ <;>
      · unfold b_fits_1
        simp only [mVar, mC, mMap, mMap2, lift_some, lift_none, bind_ok, bind_err, bind_bad, mCons, mNil, mT, asB_bool, asB, mAnd, mOr, mNot, andV_eq, orV_eq, mNotV, mIf, chain_eq, chK_b, mCall, sSeq, sNext, sIf, sRet, sRetN, sDrop, sAsg, sRaise, sFor, sApp, sOwn, setO, ownAt, mOwn1, mPop0, sFrz, frz, sAug, ex_ok, ex_err, ex_bad, then_nx, then_ret, then_brk, then_ct, then_err, optG_some, optG_none, tName, setD, tTupG, tsCons, tsNil, Option.bind_some, List.getElem?_cons_zero, List.getElem?_cons_succ, List.set_cons_zero, List.set_cons_succ, List.length_cons, List.length_nil, Bool.not_true, Bool.not_false, Bool.false_eq_true, if_true, if_false, reduceIte, List.map_cons, List.map_nil, List.cons_append, List.nil_append, List.replicate, Nat.reduceSub, Nat.reduceAdd, Nat.reduceEqDiff, Option.map_some, Option.map_none, outs, Int.reduceAdd, Int.reduceSub, Int.reduceBEq, Int.reduceLT, Int.reduceLE, decide_true, decide_false, beq_self_eq_true, cast_0, cast_1, cast_2, cast_3, cast_4, cast_5, isi_str, isi_tup, addD_i, addI_i, subD_i, leD_i, leD_s, ltD_i, ltD_s, gtD_i, geD_i, eqD_i, neD_i, eqD_b, neD_b, eqD_s, lenD_l, lenD_t, absD_i, intD_i, tupD_l, tupD_t, lstD_l, lstD_t, mkT_0, mkT_1, mkT_2, mkT_3, mkL_0, mkL_1, sized_0, sized_1, ix_0, ix_1, ix_2, isT_t, isT_s, isT_l, isT_i, isT_n, isS_s, isS_t, isS_l, isS_i, isS_n, neD_s, Kd.inj, Mk.inj, Lk.inj, s_km, s_mk, List.length_append, L_c, L_i, L_n, L_a, L_cc, L_ic, L_ii, L_nc, L_ni, L_nn, L_ac, L_ai, L_an, L_aa, notInD_m, h]
  have l2 := fun (y : Sl) => for_ret_list (t := tTupG 2 (tsCons (tName 5) (tsCons (tName 6) tsNil))) (body := b_fits_2) tD (.bool false) (tst k ms) (fun s => ∃ z5 z6, NO z5 ∧ NO z6 ∧ s = fS p k ms n [y, z5, z6]) (fun s => ∃ r, s = fS p k ms n r)
    p.n (fS p k ms n [y, .un, .un]) ⟨.un, .un, no_un, no_un, rfl⟩ fun m _ s ⟨z5, z6, h5, h6, hs⟩ => by
      subst hs
      have t1 : ∀ a b : D, tTupG 2 (tsCons (tName 5) (tsCons (tName 6) tsNil)) (.tuple [a, b]) (fS p k ms n [y, z5, z6]) = some (fS p k ms n [y, .dat a, .dat b]) := fun a b => by
        cases z5 <;> cases z6 <;> first | rfl | exact h5.elim | exact h6.elim
      cases m with
      | kind q =>
        refine ⟨_, t1 _ _, fun h => ⟨fS p k ms n [y, .dat (.str "kind"), .dat (kD q)], ?_, _, _, no_dat _, no_dat _, rfl⟩, fun h => ⟨fS p k ms n [y, .dat (.str "kind"), .dat (kD q)], ?_, _, rfl⟩⟩ <;>
        · unfold tst at h
          unfold b_fits_2
          simp only [mVar, mC, mMap, mMap2, lift_some, lift_none, bind_ok, bind_err, bind_bad, mCons, mNil, mT, asB_bool, asB, mAnd, mOr, mNot, andV_eq, orV_eq, mNotV, mIf, chain_eq, chK_b, mCall, sSeq, sNext, sIf, sRet, sRetN, sDrop, sAsg, sRaise, sFor, sApp, sOwn, setO, ownAt, mOwn1, mPop0, sFrz, frz, sAug, ex_ok, ex_err, ex_bad, then_nx, then_ret, then_brk, then_ct, then_err, optG_some, optG_none, tName, setD, tTupG, tsCons, tsNil, Option.bind_some, List.getElem?_cons_zero, List.getElem?_cons_succ, List.set_cons_zero, List.set_cons_succ, List.length_cons, List.length_nil, Bool.not_true, Bool.not_false, Bool.false_eq_true, if_true, if_false, reduceIte, List.map_cons, List.map_nil, List.cons_append, List.nil_append, List.replicate, Nat.reduceSub, Nat.reduceAdd, Nat.reduceEqDiff, Option.map_some, Option.map_none, outs, Int.reduceAdd, Int.reduceSub, Int.reduceBEq, Int.reduceLT, Int.reduceLE, decide_true, decide_false, beq_self_eq_true, cast_0, cast_1, cast_2, cast_3, cast_4, cast_5, isi_str, isi_tup, addD_i, addI_i, subD_i, leD_i, leD_s, ltD_i, ltD_s, gtD_i, geD_i, eqD_i, neD_i, eqD_b, neD_b, eqD_s, lenD_l, lenD_t, absD_i, intD_i, tupD_l, tupD_t, lstD_l, lstD_t, mkT_0, mkT_1, mkT_2, mkT_3, mkL_0, mkL_1, sized_0, sized_1, ix_0, ix_1, ix_2, isT_t, isT_s, isT_l, isT_i, isT_n, isS_s, isS_t, isS_l, isS_i, isS_n, neD_s, Kd.inj, Mk.inj, Lk.inj, s_km, s_mk, List.length_append, L_c, L_i, L_n, L_a, L_cc, L_ic, L_ii, L_nc, L_ni, L_nn, L_ac, L_ai, L_an, L_aa, h]
      | mark q =>
        refine ⟨_, t1 _ _, fun h => ⟨fS p k ms n [y, .dat (.str "mark"), .dat (mD q)], ?_, _, _, no_dat _, no_dat _, rfl⟩, fun h => ⟨fS p k ms n [y, .dat (.str "mark"), .dat (mD q)], ?_, _, rfl⟩⟩ <;>
        · unfold tst at h
          unfold b_fits_2
          simp only [mVar, mC, mMap, mMap2, lift_some, lift_none, bind_ok, bind_err, bind_bad, mCons, mNil, mT, asB_bool, asB, mAnd, mOr, mNot, andV_eq, orV_eq, mNotV, mIf, chain_eq, chK_b, mCall, sSeq, sNext, sIf, sRet, sRetN, sDrop, sAsg, sRaise, sFor, sApp, sOwn, setO, ownAt, mOwn1, mPop0, sFrz, frz, sAug, ex_ok, ex_err, ex_bad, then_nx, then_ret, then_brk, then_ct, then_err, optG_some, optG_none, tName, setD, tTupG, tsCons, tsNil, Option.bind_some, List.getElem?_cons_zero, List.getElem?_cons_succ, List.set_cons_zero, List.set_cons_succ, List.length_cons, List.length_nil, Bool.not_true, Bool.not_false, Bool.false_eq_true, if_true, if_false, reduceIte, List.map_cons, List.map_nil, List.cons_append, List.nil_append, List.replicate, Nat.reduceSub, Nat.reduceAdd, Nat.reduceEqDiff, Option.map_some, Option.map_none, outs, Int.reduceAdd, Int.reduceSub, Int.reduceBEq, Int.reduceLT, Int.reduceLE, decide_true, decide_false, beq_self_eq_true, cast_0, cast_1, cast_2, cast_3, cast_4, cast_5, isi_str, isi_tup, addD_i, addI_i, subD_i, leD_i, leD_s, ltD_i, ltD_s, gtD_i, geD_i, eqD_i, neD_i, eqD_b, neD_b, eqD_s, lenD_l, lenD_t, absD_i, intD_i, tupD_l, tupD_t, lstD_l, lstD_t, mkT_0, mkT_1, mkT_2, mkT_3, mkL_0, mkL_1, sized_0, sized_1, ix_0, ix_1, ix_2, isT_t, isT_s, isT_l, isT_i, isT_n, isS_s, isS_t, isS_l, isS_i, isS_n, neD_s, Kd.inj, Mk.inj, Lk.inj, s_km, s_mk, List.length_append, L_c, L_i, L_n, L_a, L_cc, L_ic, L_ii, L_nc, L_ni, L_nn, L_ac, L_ai, L_an, L_aa, inD_m, h]
  have i1 : items (msD p.m) = some (p.m.map mD) := rfl
  have i2 : items (.tuple (p.n.map tD)) = some (p.n.map tD) := rfl
  have fn := fits_number_eq p.s p.f n
  have main : ∃ r, g_fits (fS p k ms n [.un, .un, .un]) = .ret (.bool (fits p k ms n)) (fS p k ms n r) := by
    unfold g_fits fits
    have st := seq_ifr (h := sSeq (sFor (mMap (mMap2 (mVar 0) (mC (.int 1)) ixD) items) (tName 4) b_fits_1) (sSeq (sFor (mMap (mMap2 (mVar 0) (mC (.int 2)) ixD) items) (tTupG 2 (tsCons (tName 5) (tsCons (tName 6) tsNil))) b_fits_2) (sRet (mCall 3 F_fits_number (mCons (mMap2 (mVar 0) (mC (.int 3)) ixD) (mCons (mMap2 (mVar 0) (mC (.int 4)) ixD) (mCons (mVar 3) mNil))))))) (kind_step p k (s := fS p k ms n [.un, .un, .un]) rfl rfl)
    rw [st]
    rcases two (kOk p.k k) with hk | hk
    · rw [if_pos hk, hk]
      rcases seq_for (s := fS p k ms n [.un, .un, .un]) (f := mMap (mMap2 (mVar 0) (mC (.int 1)) ixD) items) (by simp only [mVar, mC, mMap, mMap2, lift_some, lift_none, bind_ok, bind_err, bind_bad, mCons, mNil, mT, asB_bool, asB, mAnd, mOr, mNot, andV_eq, orV_eq, mNotV, mIf, chain_eq, chK_b, mCall, sSeq, sNext, sIf, sRet, sRetN, sDrop, sAsg, sRaise, sFor, sApp, sOwn, setO, ownAt, mOwn1, mPop0, sFrz, frz, sAug, ex_ok, ex_err, ex_bad, then_nx, then_ret, then_brk, then_ct, then_err, optG_some, optG_none, tName, setD, tTupG, tsCons, tsNil, Option.bind_some, List.getElem?_cons_zero, List.getElem?_cons_succ, List.set_cons_zero, List.set_cons_succ, List.length_cons, List.length_nil, Bool.not_true, Bool.not_false, Bool.false_eq_true, if_true, if_false, reduceIte, List.map_cons, List.map_nil, List.cons_append, List.nil_append, List.replicate, Nat.reduceSub, Nat.reduceAdd, Nat.reduceEqDiff, Option.map_some, Option.map_none, outs, Int.reduceAdd, Int.reduceSub, Int.reduceBEq, Int.reduceLT, Int.reduceLE, decide_true, decide_false, beq_self_eq_true, cast_0, cast_1, cast_2, cast_3, cast_4, cast_5, isi_str, isi_tup, addD_i, addI_i, subD_i, leD_i, leD_s, ltD_i, ltD_s, gtD_i, geD_i, eqD_i, neD_i, eqD_b, neD_b, eqD_s, lenD_l, lenD_t, absD_i, intD_i, tupD_l, tupD_t, lstD_l, lstD_t, mkT_0, mkT_1, mkT_2, mkT_3, mkL_0, mkL_1, sized_0, sized_1, ix_0, ix_1, ix_2, isT_t, isT_s, isT_l, isT_i, isT_n, isS_s, isS_t, isS_l, isS_i, isS_n, neD_s, Kd.inj, Mk.inj, Lk.inj, s_km, s_mk, List.length_append, L_c, L_i, L_n, L_a, L_cc, L_ic, L_ii, L_nc, L_ni, L_nn, L_ac, L_ai, L_an, L_aa, pD_1, i1]) l1 with ⟨hm, s', e1, r, rfl⟩ | ⟨hm, s', e1, z, hz, rfl⟩
      · exact ⟨r, by rw [e1, hm]; rfl⟩
      · rw [e1, hm]
        rcases seq_for (s := fS p k ms n [z, .un, .un]) (f := mMap (mMap2 (mVar 0) (mC (.int 2)) ixD) items) (by simp only [mVar, mC, mMap, mMap2, lift_some, lift_none, bind_ok, bind_err, bind_bad, mCons, mNil, mT, asB_bool, asB, mAnd, mOr, mNot, andV_eq, orV_eq, mNotV, mIf, chain_eq, chK_b, mCall, sSeq, sNext, sIf, sRet, sRetN, sDrop, sAsg, sRaise, sFor, sApp, sOwn, setO, ownAt, mOwn1, mPop0, sFrz, frz, sAug, ex_ok, ex_err, ex_bad, then_nx, then_ret, then_brk, then_ct, then_err, optG_some, optG_none, tName, setD, tTupG, tsCons, tsNil, Option.bind_some, List.getElem?_cons_zero, List.getElem?_cons_succ, List.set_cons_zero, List.set_cons_succ, List.length_cons, List.length_nil, Bool.not_true, Bool.not_false, Bool.false_eq_true, if_true, if_false, reduceIte, List.map_cons, List.map_nil, List.cons_append, List.nil_append, List.replicate, Nat.reduceSub, Nat.reduceAdd, Nat.reduceEqDiff, Option.map_some, Option.map_none, outs, Int.reduceAdd, Int.reduceSub, Int.reduceBEq, Int.reduceLT, Int.reduceLE, decide_true, decide_false, beq_self_eq_true, cast_0, cast_1, cast_2, cast_3, cast_4, cast_5, isi_str, isi_tup, addD_i, addI_i, subD_i, leD_i, leD_s, ltD_i, ltD_s, gtD_i, geD_i, eqD_i, neD_i, eqD_b, neD_b, eqD_s, lenD_l, lenD_t, absD_i, intD_i, tupD_l, tupD_t, lstD_l, lstD_t, mkT_0, mkT_1, mkT_2, mkT_3, mkL_0, mkL_1, sized_0, sized_1, ix_0, ix_1, ix_2, isT_t, isT_s, isT_l, isT_i, isT_n, isS_s, isS_t, isS_l, isS_i, isS_n, neD_s, Kd.inj, Mk.inj, Lk.inj, s_km, s_mk, List.length_append, L_c, L_i, L_n, L_a, L_cc, L_ic, L_ii, L_nc, L_ni, L_nn, L_ac, L_ai, L_an, L_aa, pD_2, i2]) (l2 z) with ⟨hn, s', e2, r, rfl⟩ | ⟨hn, s', e2, z5, z6, h5, h6, rfl⟩
        · exact ⟨r, by rw [e2, hn]; rfl⟩
        · refine ⟨[z, z5, z6], ?_⟩
          rw [e2, hn]
          simp only [mVar, mC, mMap, mMap2, lift_some, lift_none, bind_ok, bind_err, bind_bad, mCons, mNil, mT, asB_bool, asB, mAnd, mOr, mNot, andV_eq, orV_eq, mNotV, mIf, chain_eq, chK_b, mCall, sSeq, sNext, sIf, sRet, sRetN, sDrop, sAsg, sRaise, sFor, sApp, sOwn, setO, ownAt, mOwn1, mPop0, sFrz, frz, sAug, ex_ok, ex_err, ex_bad, then_nx, then_ret, then_brk, then_ct, then_err, optG_some, optG_none, tName, setD, tTupG, tsCons, tsNil, Option.bind_some, List.getElem?_cons_zero, List.getElem?_cons_succ, List.set_cons_zero, List.set_cons_succ, List.length_cons, List.length_nil, Bool.not_true, Bool.not_false, Bool.false_eq_true, if_true, if_false, reduceIte, List.map_cons, List.map_nil, List.cons_append, List.nil_append, List.replicate, Nat.reduceSub, Nat.reduceAdd, Nat.reduceEqDiff, Option.map_some, Option.map_none, outs, Int.reduceAdd, Int.reduceSub, Int.reduceBEq, Int.reduceLT, Int.reduceLE, decide_true, decide_false, beq_self_eq_true, cast_0, cast_1, cast_2, cast_3, cast_4, cast_5, isi_str, isi_tup, addD_i, addI_i, subD_i, leD_i, leD_s, ltD_i, ltD_s, gtD_i, geD_i, eqD_i, neD_i, eqD_b, neD_b, eqD_s, lenD_l, lenD_t, absD_i, intD_i, tupD_l, tupD_t, lstD_l, lstD_t, mkT_0, mkT_1, mkT_2, mkT_3, mkL_0, mkL_1, sized_0, sized_1, ix_0, ix_1, ix_2, isT_t, isT_s, isT_l, isT_i, isT_n, isS_s, isS_t, isS_l, isS_i, isS_n, neD_s, Kd.inj, Mk.inj, Lk.inj, s_km, s_mk, List.length_append, L_c, L_i, L_n, L_a, L_cc, L_ic, L_ii, L_nc, L_ni, L_nn, L_ac, L_ai, L_an, L_aa, pD_3, pD_4, fn]
          rfl
    · rw [hk]
      exact ⟨_, rfl⟩
  obtain ⟨r, main⟩ := main
  exact run_x (st := fS p k ms n [.un, .un, .un]) main rfl
/-! ### linked places -/
def lp (p : List Nat) (l : Lk) : List (List Nat) := match p.getLast? with
  | none => []
  | some i => match l with
    | .child => [p.dropLast]
    | .inside => (List.range p.length).map (p.take ·)
    | .next => if 0 < i then [p.dropLast ++ [i - 1]] else []
    | .after => (List.range i).map fun k => p.dropLast ++ [k]
theorem lp_nil (l : Lk) : lp [] l = [] := rfl
theorem lp_snoc (q : List Nat) (i : Nat) (l : Lk) : lp (q ++ [i]) l = match l with
    | .child => [q]
    | .inside => (List.range (q.length + 1)).map ((q ++ [i]).take ·)
    | .next => if 0 < i then [q ++ [i - 1]] else []
    | .after => (List.range i).map fun k => q ++ [k] := by
  unfold lp
  rw [List.getLast?_append]
  simp only [List.getLast?_singleton, Option.some_or, List.dropLast_concat, List.length_append, List.length_singleton]
theorem plD_snoc (q : List Nat) (i : Nat) : plD (q ++ [i]) = .tuple (q.map nat ++ [nat i]) := by unfold plD; rw [List.map_append]; rfl
theorem linked_eq (p : List Nat) (l : Lk) (hp : p.length ≤ 1000) (hi : ∀ i ∈ p, i ≤ 1000) : F_linked_places [.dat (plD p), .dat (lD l)] = .ok (.list ((lp p l).map plD)) [.dat (plD p), .dat (lD l)] := by
  have hn : negD (.int 1) = some (.int (-1)) := rfl
  rcases List.eq_nil_or_concat p with rfl | ⟨q, i, rfl⟩
  · refine run_x (s := ?_) (st := [.dat (plD []), .dat (lD l), .un, .un, .un]) ?_ ?_
    rotate_left
    · unfold g_linked_places
      simp only [mVar, mC, mMap, mMap2, lift_some, lift_none, bind_ok, bind_err, bind_bad, mCons, mNil, mT, asB_bool, asB, mAnd, mOr, mNot, andV_eq, orV_eq, mNotV, mIf, chain_eq, chK_b, mCall, sSeq, sNext, sIf, sRet, sRetN, sDrop, sAsg, sRaise, sFor, sApp, sOwn, setO, ownAt, mOwn1, mPop0, sFrz, frz, sAug, ex_ok, ex_err, ex_bad, then_nx, then_ret, then_brk, then_ct, then_err, optG_some, optG_none, tName, setD, tTupG, tsCons, tsNil, Option.bind_some, List.getElem?_cons_zero, List.getElem?_cons_succ, List.set_cons_zero, List.set_cons_succ, List.length_cons, List.length_nil, Bool.not_true, Bool.not_false, Bool.false_eq_true, if_true, if_false, reduceIte, List.map_cons, List.map_nil, List.cons_append, List.nil_append, List.replicate, Nat.reduceSub, Nat.reduceAdd, Nat.reduceEqDiff, Option.map_some, Option.map_none, outs, Int.reduceAdd, Int.reduceSub, Int.reduceBEq, Int.reduceLT, Int.reduceLE, decide_true, decide_false, beq_self_eq_true, cast_0, cast_1, cast_2, cast_3, cast_4, cast_5, isi_str, isi_tup, addD_i, addI_i, subD_i, leD_i, leD_s, ltD_i, ltD_s, gtD_i, geD_i, eqD_i, neD_i, eqD_b, neD_b, eqD_s, lenD_l, lenD_t, absD_i, intD_i, tupD_l, tupD_t, lstD_l, lstD_t, mkT_0, mkT_1, mkT_2, mkT_3, mkL_0, mkL_1, sized_0, sized_1, ix_0, ix_1, ix_2, isT_t, isT_s, isT_l, isT_i, isT_n, isS_s, isS_t, isS_l, isS_i, isS_n, neD_s, Kd.inj, Mk.inj, Lk.inj, s_km, s_mk, List.length_append, L_c, L_i, L_n, L_a, L_cc, L_ic, L_ii, L_nc, L_ni, L_nn, L_ac, L_ai, L_an, L_aa, show plD [] = .tuple [] from rfl]
      rfl
    · rfl
  · rw [List.concat_eq_append] at hp hi ⊢
    rw [lp_snoc]
    rw [List.length_append, List.length_singleton] at hp
    have hi1 : i ≤ 1000 := hi i (by simp)
    have h0 : ((((q.map nat).length + 1 : Nat) : Int) == 0) = false := by rw [beq_eq_false_iff_ne]; omega
    have hr : rng1 [.int (((q.map nat).length + 1 : Nat) : Int)] = some ((List.range (q.length + 1)).map nat) := by rw [List.length_map]; exact rng_nat (by omega)
    have hr2 : rng1 [nat i] = some ((List.range i).map nat) := rng_nat (by omega)
    have sub1 : subD (nat i) (.int 1) = some (.int ((i : Int) - 1)) := rfl
    have ad : ∀ k : Nat, addD (.tuple (q.map nat)) (.tuple [nat k]) = some (plD (q ++ [k])) := fun k => by rw [plD_snoc]; exact addT_sm (by rw [List.length_map, List.length_singleton]; omega)
    have two_ : mkT [.tuple (q.map nat), nat i] = some (.tuple [.tuple (q.map nat), nat i]) := mkT_2 _ _
    have hz : sizeLine ≥ 100000 := by decide
    have hR : ∀ a b : Sl, lcG [4] (tName 4) mYes e_linked_places_1 ((List.range (q.length + 1)).map nat) [.dat (plD (q ++ [i])), a, b, .dat (nat i), .un] = .ok ((List.range (q.length + 1)).map fun k => plD ((q ++ [i]).take k)) [.dat (plD (q ++ [i])), a, b, .dat (nat i), .un] := fun a b =>
      lc_typed nat _ fun k _ => ⟨[.dat (plD (q ++ [i])), a, b, .dat (nat i), .dat (nat k)], rfl, by
        unfold e_linked_places_1
        have e : slD (plD (q ++ [i])) none (some (k : Int)) = some (plD ((q ++ [i]).take k)) := by
          unfold plD
          rw [slt_to, List.map_take]
        simp only [mVar, mC, mMap, mMap2, lift_some, lift_none, bind_ok, bind_err, bind_bad, mCons, mNil, mT, asB_bool, asB, mAnd, mOr, mNot, andV_eq, orV_eq, mNotV, mIf, chain_eq, chK_b, mCall, sSeq, sNext, sIf, sRet, sRetN, sDrop, sAsg, sRaise, sFor, sApp, sOwn, setO, ownAt, mOwn1, mPop0, sFrz, frz, sAug, ex_ok, ex_err, ex_bad, then_nx, then_ret, then_brk, then_ct, then_err, optG_some, optG_none, tName, setD, tTupG, tsCons, tsNil, Option.bind_some, List.getElem?_cons_zero, List.getElem?_cons_succ, List.set_cons_zero, List.set_cons_succ, List.length_cons, List.length_nil, Bool.not_true, Bool.not_false, Bool.false_eq_true, if_true, if_false, reduceIte, List.map_cons, List.map_nil, List.cons_append, List.nil_append, List.replicate, Nat.reduceSub, Nat.reduceAdd, Nat.reduceEqDiff, Option.map_some, Option.map_none, outs, Int.reduceAdd, Int.reduceSub, Int.reduceBEq, Int.reduceLT, Int.reduceLE, decide_true, decide_false, beq_self_eq_true, cast_0, cast_1, cast_2, cast_3, cast_4, cast_5, isi_str, isi_tup, addD_i, addI_i, subD_i, leD_i, leD_s, ltD_i, ltD_s, gtD_i, geD_i, eqD_i, neD_i, eqD_b, neD_b, eqD_s, lenD_l, lenD_t, absD_i, intD_i, tupD_l, tupD_t, lstD_l, lstD_t, mkT_0, mkT_1, mkT_2, mkT_3, mkL_0, mkL_1, sized_0, sized_1, ix_0, ix_1, ix_2, isT_t, isT_s, isT_l, isT_i, isT_n, isS_s, isS_t, isS_l, isS_i, isS_n, neD_s, Kd.inj, Mk.inj, Lk.inj, s_km, s_mk, List.length_append, L_c, L_i, L_n, L_a, L_cc, L_ic, L_ii, L_nc, L_ni, L_nn, L_ac, L_ai, L_an, L_aa, mSl, mPart, e], rfl⟩
    have hA : ∀ a b : Sl, lcG [4] (tName 4) mYes e_linked_places_2 ((List.range i).map nat) [a, b, .dat (.tuple (q.map nat)), .dat (nat i), .un] = .ok ((List.range i).map fun k => plD (q ++ [k])) [a, b, .dat (.tuple (q.map nat)), .dat (nat i), .un] := fun a b =>
      lc_typed nat _ fun k _ => ⟨[a, b, .dat (.tuple (q.map nat)), .dat (nat i), .dat (nat k)], rfl, by
        unfold e_linked_places_2
        simp only [mVar, mC, mMap, mMap2, lift_some, lift_none, bind_ok, bind_err, bind_bad, mCons, mNil, mT, asB_bool, asB, mAnd, mOr, mNot, andV_eq, orV_eq, mNotV, mIf, chain_eq, chK_b, mCall, sSeq, sNext, sIf, sRet, sRetN, sDrop, sAsg, sRaise, sFor, sApp, sOwn, setO, ownAt, mOwn1, mPop0, sFrz, frz, sAug, ex_ok, ex_err, ex_bad, then_nx, then_ret, then_brk, then_ct, then_err, optG_some, optG_none, tName, setD, tTupG, tsCons, tsNil, Option.bind_some, List.getElem?_cons_zero, List.getElem?_cons_succ, List.set_cons_zero, List.set_cons_succ, List.length_cons, List.length_nil, Bool.not_true, Bool.not_false, Bool.false_eq_true, if_true, if_false, reduceIte, List.map_cons, List.map_nil, List.cons_append, List.nil_append, List.replicate, Nat.reduceSub, Nat.reduceAdd, Nat.reduceEqDiff, Option.map_some, Option.map_none, outs, Int.reduceAdd, Int.reduceSub, Int.reduceBEq, Int.reduceLT, Int.reduceLE, decide_true, decide_false, beq_self_eq_true, cast_0, cast_1, cast_2, cast_3, cast_4, cast_5, isi_str, isi_tup, addD_i, addI_i, subD_i, leD_i, leD_s, ltD_i, ltD_s, gtD_i, geD_i, eqD_i, neD_i, eqD_b, neD_b, eqD_s, lenD_l, lenD_t, absD_i, intD_i, tupD_l, tupD_t, lstD_l, lstD_t, mkT_0, mkT_1, mkT_2, mkT_3, mkL_0, mkL_1, sized_0, sized_1, ix_0, ix_1, ix_2, isT_t, isT_s, isT_l, isT_i, isT_n, isS_s, isS_t, isS_l, isS_i, isS_n, neD_s, Kd.inj, Mk.inj, Lk.inj, s_km, s_mk, List.length_append, L_c, L_i, L_n, L_a, L_cc, L_ic, L_ii, L_nc, L_ni, L_nn, L_ac, L_ai, L_an, L_aa, ad], rfl⟩
    have tu : ∀ s2 : Sl, sAsg (mMap (mCons (mSl (mVar 0) (mPart none) (mPart (some (mMap (mC (.int 1)) negD)))) (mCons (mMap2 (mVar 0) (mMap (mC (.int 1)) negD) ixD) mNil)) mkT) (tTupG 2 (tsCons (tName 2) (tsCons (tName 3) tsNil))) [.dat (plD (q ++ [i])), s2, .un, .un, .un] = .nx [.dat (plD (q ++ [i])), s2, .dat (.tuple (q.map nat)), .dat (nat i), .un] := fun s2 => by
      simp only [mVar, mC, mMap, mMap2, lift_some, lift_none, bind_ok, bind_err, bind_bad, mCons, mNil, mT, asB_bool, asB, mAnd, mOr, mNot, andV_eq, orV_eq, mNotV, mIf, chain_eq, chK_b, mCall, sSeq, sNext, sIf, sRet, sRetN, sDrop, sAsg, sRaise, sFor, sApp, sOwn, setO, ownAt, mOwn1, mPop0, sFrz, frz, sAug, ex_ok, ex_err, ex_bad, then_nx, then_ret, then_brk, then_ct, then_err, optG_some, optG_none, tName, setD, tTupG, tsCons, tsNil, Option.bind_some, List.getElem?_cons_zero, List.getElem?_cons_succ, List.set_cons_zero, List.set_cons_succ, List.length_cons, List.length_nil, Bool.not_true, Bool.not_false, Bool.false_eq_true, if_true, if_false, reduceIte, List.map_cons, List.map_nil, List.cons_append, List.nil_append, List.replicate, Nat.reduceSub, Nat.reduceAdd, Nat.reduceEqDiff, Option.map_some, Option.map_none, outs, Int.reduceAdd, Int.reduceSub, Int.reduceBEq, Int.reduceLT, Int.reduceLE, decide_true, decide_false, beq_self_eq_true, cast_0, cast_1, cast_2, cast_3, cast_4, cast_5, isi_str, isi_tup, addD_i, addI_i, subD_i, leD_i, leD_s, ltD_i, ltD_s, gtD_i, geD_i, eqD_i, neD_i, eqD_b, neD_b, eqD_s, lenD_l, lenD_t, absD_i, intD_i, tupD_l, tupD_t, lstD_l, lstD_t, mkT_0, mkT_1, mkT_2, mkT_3, mkL_0, mkL_1, sized_0, sized_1, ix_0, ix_1, ix_2, isT_t, isT_s, isT_l, isT_i, isT_n, isS_s, isS_t, isS_l, isS_i, isS_n, neD_s, Kd.inj, Mk.inj, Lk.inj, s_km, s_mk, List.length_append, L_c, L_i, L_n, L_a, L_cc, L_ic, L_ii, L_nc, L_ni, L_nn, L_ac, L_ai, L_an, L_aa, mSl, mPart, hn, plD_snoc, sl_init, ix_last]
    have w4 : ∀ a b c d e : Sl, wipeS [a, b, c, d, e] [4] = [a, b, c, d, .un] := fun _ _ _ _ _ => rfl
    have n4 : ∀ a b c d : Sl, noOwn [4] [a, b, c, d, .un] = true := fun _ _ _ _ => rfl
    have u4 : ∀ a b c d e f g h : Sl, putS [a, b, c, d, .un] [e, f, g, h, .un] [4] = [e, f, g, h, .un] := fun _ _ _ _ _ _ _ _ => rfl
    have z1 : ((List.range (q.length + 1)).map fun k => plD ((q ++ [i]).take k)).length ≤ sizeLine := small_line (by rw [List.length_map, List.length_range]; omega)
    have z2 : ((List.range i).map fun k => plD (q ++ [k])).length ≤ sizeLine := small_line (by rw [List.length_map, List.length_range]; omega)
    have len : lenD [plD (q ++ [i])] = some (.int (((q.map nat).length + 1 : Nat) : Int)) := by rw [plD_snoc, lenD_t, List.length_append]; rfl
    have main : ∃ r, g_linked_places [.dat (plD (q ++ [i])), .dat (lD l), .un, .un, .un] = .ret (.list ((lp (q ++ [i]) l).map plD)) (.dat (plD (q ++ [i])) :: .dat (lD l) :: r) := by
      rw [lp_snoc]
      unfold g_linked_places
      refine ⟨[.dat (.tuple (q.map nat)), .dat (nat i), .un], ?_⟩
      refine (seq_nx (s1 := [.dat (plD (q ++ [i])), .dat (lD l), .un, .un, .un]) ?_).trans ?_
      · simp only [mVar, mC, mMap, mMap2, lift_some, lift_none, bind_ok, bind_err, bind_bad, mCons, mNil, mT, asB_bool, asB, mAnd, mOr, mNot, andV_eq, orV_eq, mNotV, mIf, chain_eq, chK_b, mCall, sSeq, sNext, sIf, sRet, sRetN, sDrop, sAsg, sRaise, sFor, sApp, sOwn, setO, ownAt, mOwn1, mPop0, sFrz, frz, sAug, ex_ok, ex_err, ex_bad, then_nx, then_ret, then_brk, then_ct, then_err, optG_some, optG_none, tName, setD, tTupG, tsCons, tsNil, Option.bind_some, List.getElem?_cons_zero, List.getElem?_cons_succ, List.set_cons_zero, List.set_cons_succ, List.length_cons, List.length_nil, Bool.not_true, Bool.not_false, Bool.false_eq_true, if_true, if_false, reduceIte, List.map_cons, List.map_nil, List.cons_append, List.nil_append, List.replicate, Nat.reduceSub, Nat.reduceAdd, Nat.reduceEqDiff, Option.map_some, Option.map_none, outs, Int.reduceAdd, Int.reduceSub, Int.reduceBEq, Int.reduceLT, Int.reduceLE, decide_true, decide_false, beq_self_eq_true, cast_0, cast_1, cast_2, cast_3, cast_4, cast_5, isi_str, isi_tup, addD_i, addI_i, subD_i, leD_i, leD_s, ltD_i, ltD_s, gtD_i, geD_i, eqD_i, neD_i, eqD_b, neD_b, eqD_s, lenD_l, lenD_t, absD_i, intD_i, tupD_l, tupD_t, lstD_l, lstD_t, mkT_0, mkT_1, mkT_2, mkT_3, mkL_0, mkL_1, sized_0, sized_1, ix_0, ix_1, ix_2, isT_t, isT_s, isT_l, isT_i, isT_n, isS_s, isS_t, isS_l, isS_i, isS_n, neD_s, Kd.inj, Mk.inj, Lk.inj, s_km, s_mk, List.length_append, L_c, L_i, L_n, L_a, L_cc, L_ic, L_ii, L_nc, L_ni, L_nn, L_ac, L_ai, L_an, L_aa, len, h0]
      refine (seq_nx (tu _)).trans ?_
      cases l with
      | child => simp only [mVar, mC, mMap, mMap2, lift_some, lift_none, bind_ok, bind_err, bind_bad, mCons, mNil, mT, asB_bool, asB, mAnd, mOr, mNot, andV_eq, orV_eq, mNotV, mIf, chain_eq, chK_b, mCall, sSeq, sNext, sIf, sRet, sRetN, sDrop, sAsg, sRaise, sFor, sApp, sOwn, setO, ownAt, mOwn1, mPop0, sFrz, frz, sAug, ex_ok, ex_err, ex_bad, then_nx, then_ret, then_brk, then_ct, then_err, optG_some, optG_none, tName, setD, tTupG, tsCons, tsNil, Option.bind_some, List.getElem?_cons_zero, List.getElem?_cons_succ, List.set_cons_zero, List.set_cons_succ, List.length_cons, List.length_nil, Bool.not_true, Bool.not_false, Bool.false_eq_true, if_true, if_false, reduceIte, List.map_cons, List.map_nil, List.cons_append, List.nil_append, List.replicate, Nat.reduceSub, Nat.reduceAdd, Nat.reduceEqDiff, Option.map_some, Option.map_none, outs, Int.reduceAdd, Int.reduceSub, Int.reduceBEq, Int.reduceLT, Int.reduceLE, decide_true, decide_false, beq_self_eq_true, cast_0, cast_1, cast_2, cast_3, cast_4, cast_5, isi_str, isi_tup, addD_i, addI_i, subD_i, leD_i, leD_s, ltD_i, ltD_s, gtD_i, geD_i, eqD_i, neD_i, eqD_b, neD_b, eqD_s, lenD_l, lenD_t, absD_i, intD_i, tupD_l, tupD_t, lstD_l, lstD_t, mkT_0, mkT_1, mkT_2, mkT_3, mkL_0, mkL_1, sized_0, sized_1, ix_0, ix_1, ix_2, isT_t, isT_s, isT_l, isT_i, isT_n, isS_s, isS_t, isS_l, isS_i, isS_n, neD_s, Kd.inj, Mk.inj, Lk.inj, s_km, s_mk, List.length_append, L_c, L_i, L_n, L_a, L_cc, L_ic, L_ii, L_nc, L_ni, L_nn, L_ac, L_ai, L_an, L_aa, plD]
      | inside =>
        simp only [mVar, mC, mMap, mMap2, lift_some, lift_none, bind_ok, bind_err, bind_bad, mCons, mNil, mT, asB_bool, asB, mAnd, mOr, mNot, andV_eq, orV_eq, mNotV, mIf, chain_eq, chK_b, mCall, sSeq, sNext, sIf, sRet, sRetN, sDrop, sAsg, sRaise, sFor, sApp, sOwn, setO, ownAt, mOwn1, mPop0, sFrz, frz, sAug, ex_ok, ex_err, ex_bad, then_nx, then_ret, then_brk, then_ct, then_err, optG_some, optG_none, tName, setD, tTupG, tsCons, tsNil, Option.bind_some, List.getElem?_cons_zero, List.getElem?_cons_succ, List.set_cons_zero, List.set_cons_succ, List.length_cons, List.length_nil, Bool.not_true, Bool.not_false, Bool.false_eq_true, if_true, if_false, reduceIte, List.map_cons, List.map_nil, List.cons_append, List.nil_append, List.replicate, Nat.reduceSub, Nat.reduceAdd, Nat.reduceEqDiff, Option.map_some, Option.map_none, outs, Int.reduceAdd, Int.reduceSub, Int.reduceBEq, Int.reduceLT, Int.reduceLE, decide_true, decide_false, beq_self_eq_true, cast_0, cast_1, cast_2, cast_3, cast_4, cast_5, isi_str, isi_tup, addD_i, addI_i, subD_i, leD_i, leD_s, ltD_i, ltD_s, gtD_i, geD_i, eqD_i, neD_i, eqD_b, neD_b, eqD_s, lenD_l, lenD_t, absD_i, intD_i, tupD_l, tupD_t, lstD_l, lstD_t, mkT_0, mkT_1, mkT_2, mkT_3, mkL_0, mkL_1, sized_0, sized_1, ix_0, ix_1, ix_2, isT_t, isT_s, isT_l, isT_i, isT_n, isS_s, isS_t, isS_l, isS_i, isS_n, neD_s, Kd.inj, Mk.inj, Lk.inj, s_km, s_mk, List.length_append, L_c, L_i, L_n, L_a, L_cc, L_ic, L_ii, L_nc, L_ni, L_nn, L_ac, L_ai, L_an, L_aa, mL, mLc, len, hr, w4, n4, hR, z1, u4, List.map_map]
        rfl
      | next =>
        by_cases h : 0 < i
        · have h' : (0 : Int) < (i : Int) := by omega
          have e : (i : Int) - 1 = ((i - 1 : Nat) : Int) := by omega
          simp only [mVar, mC, mMap, mMap2, lift_some, lift_none, bind_ok, bind_err, bind_bad, mCons, mNil, mT, asB_bool, asB, mAnd, mOr, mNot, andV_eq, orV_eq, mNotV, mIf, chain_eq, chK_b, mCall, sSeq, sNext, sIf, sRet, sRetN, sDrop, sAsg, sRaise, sFor, sApp, sOwn, setO, ownAt, mOwn1, mPop0, sFrz, frz, sAug, ex_ok, ex_err, ex_bad, then_nx, then_ret, then_brk, then_ct, then_err, optG_some, optG_none, tName, setD, tTupG, tsCons, tsNil, Option.bind_some, List.getElem?_cons_zero, List.getElem?_cons_succ, List.set_cons_zero, List.set_cons_succ, List.length_cons, List.length_nil, Bool.not_true, Bool.not_false, Bool.false_eq_true, if_true, if_false, reduceIte, List.map_cons, List.map_nil, List.cons_append, List.nil_append, List.replicate, Nat.reduceSub, Nat.reduceAdd, Nat.reduceEqDiff, Option.map_some, Option.map_none, outs, Int.reduceAdd, Int.reduceSub, Int.reduceBEq, Int.reduceLT, Int.reduceLE, decide_true, decide_false, beq_self_eq_true, cast_0, cast_1, cast_2, cast_3, cast_4, cast_5, isi_str, isi_tup, addD_i, addI_i, subD_i, leD_i, leD_s, ltD_i, ltD_s, gtD_i, geD_i, eqD_i, neD_i, eqD_b, neD_b, eqD_s, lenD_l, lenD_t, absD_i, intD_i, tupD_l, tupD_t, lstD_l, lstD_t, mkT_0, mkT_1, mkT_2, mkT_3, mkL_0, mkL_1, sized_0, sized_1, ix_0, ix_1, ix_2, isT_t, isT_s, isT_l, isT_i, isT_n, isS_s, isS_t, isS_l, isS_i, isS_n, neD_s, Kd.inj, Mk.inj, Lk.inj, s_km, s_mk, List.length_append, L_c, L_i, L_n, L_a, L_cc, L_ic, L_ii, L_nc, L_ni, L_nn, L_ac, L_ai, L_an, L_aa, h, h', e, ad]
        · have h' : ¬ (0 : Int) < (i : Int) := by omega
          simp only [mVar, mC, mMap, mMap2, lift_some, lift_none, bind_ok, bind_err, bind_bad, mCons, mNil, mT, asB_bool, asB, mAnd, mOr, mNot, andV_eq, orV_eq, mNotV, mIf, chain_eq, chK_b, mCall, sSeq, sNext, sIf, sRet, sRetN, sDrop, sAsg, sRaise, sFor, sApp, sOwn, setO, ownAt, mOwn1, mPop0, sFrz, frz, sAug, ex_ok, ex_err, ex_bad, then_nx, then_ret, then_brk, then_ct, then_err, optG_some, optG_none, tName, setD, tTupG, tsCons, tsNil, Option.bind_some, List.getElem?_cons_zero, List.getElem?_cons_succ, List.set_cons_zero, List.set_cons_succ, List.length_cons, List.length_nil, Bool.not_true, Bool.not_false, Bool.false_eq_true, if_true, if_false, reduceIte, List.map_cons, List.map_nil, List.cons_append, List.nil_append, List.replicate, Nat.reduceSub, Nat.reduceAdd, Nat.reduceEqDiff, Option.map_some, Option.map_none, outs, Int.reduceAdd, Int.reduceSub, Int.reduceBEq, Int.reduceLT, Int.reduceLE, decide_true, decide_false, beq_self_eq_true, cast_0, cast_1, cast_2, cast_3, cast_4, cast_5, isi_str, isi_tup, addD_i, addI_i, subD_i, leD_i, leD_s, ltD_i, ltD_s, gtD_i, geD_i, eqD_i, neD_i, eqD_b, neD_b, eqD_s, lenD_l, lenD_t, absD_i, intD_i, tupD_l, tupD_t, lstD_l, lstD_t, mkT_0, mkT_1, mkT_2, mkT_3, mkL_0, mkL_1, sized_0, sized_1, ix_0, ix_1, ix_2, isT_t, isT_s, isT_l, isT_i, isT_n, isS_s, isS_t, isS_l, isS_i, isS_n, neD_s, Kd.inj, Mk.inj, Lk.inj, s_km, s_mk, List.length_append, L_c, L_i, L_n, L_a, L_cc, L_ic, L_ii, L_nc, L_ni, L_nn, L_ac, L_ai, L_an, L_aa, h, h']
      | after =>
        simp only [mVar, mC, mMap, mMap2, lift_some, lift_none, bind_ok, bind_err, bind_bad, mCons, mNil, mT, asB_bool, asB, mAnd, mOr, mNot, andV_eq, orV_eq, mNotV, mIf, chain_eq, chK_b, mCall, sSeq, sNext, sIf, sRet, sRetN, sDrop, sAsg, sRaise, sFor, sApp, sOwn, setO, ownAt, mOwn1, mPop0, sFrz, frz, sAug, ex_ok, ex_err, ex_bad, then_nx, then_ret, then_brk, then_ct, then_err, optG_some, optG_none, tName, setD, tTupG, tsCons, tsNil, Option.bind_some, List.getElem?_cons_zero, List.getElem?_cons_succ, List.set_cons_zero, List.set_cons_succ, List.length_cons, List.length_nil, Bool.not_true, Bool.not_false, Bool.false_eq_true, if_true, if_false, reduceIte, List.map_cons, List.map_nil, List.cons_append, List.nil_append, List.replicate, Nat.reduceSub, Nat.reduceAdd, Nat.reduceEqDiff, Option.map_some, Option.map_none, outs, Int.reduceAdd, Int.reduceSub, Int.reduceBEq, Int.reduceLT, Int.reduceLE, decide_true, decide_false, beq_self_eq_true, cast_0, cast_1, cast_2, cast_3, cast_4, cast_5, isi_str, isi_tup, addD_i, addI_i, subD_i, leD_i, leD_s, ltD_i, ltD_s, gtD_i, geD_i, eqD_i, neD_i, eqD_b, neD_b, eqD_s, lenD_l, lenD_t, absD_i, intD_i, tupD_l, tupD_t, lstD_l, lstD_t, mkT_0, mkT_1, mkT_2, mkT_3, mkL_0, mkL_1, sized_0, sized_1, ix_0, ix_1, ix_2, isT_t, isT_s, isT_l, isT_i, isT_n, isS_s, isS_t, isS_l, isS_i, isS_n, neD_s, Kd.inj, Mk.inj, Lk.inj, s_km, s_mk, List.length_append, L_c, L_i, L_n, L_a, L_cc, L_ic, L_ii, L_nc, L_ni, L_nn, L_ac, L_ai, L_an, L_aa, mL, mLc, hr2, w4, n4, hA, z2, u4, List.map_map]
        rfl
    obtain ⟨r, main⟩ := main
    rw [lp_snoc] at main
    exact run_x (st := [.dat (plD (q ++ [i])), .dat (lD l), .un, .un, .un]) main rfl
end DL

namespace DL
open PySem PySem.Spec L2
/-! ### matching -/
def fitsAt (doc : El) (q : Part) (p : List Nat) : Bool := match doc.at p with
  | some e => fits q e.k e.m (numOf p)
  | none => false
/-- parts and links from the last one -/
def mp (doc : El) : List Part → List Lk → List Nat → Bool
  | [q], _, p => fitsAt doc q p
  | q :: q' :: qs, l :: ls, p => fitsAt doc q p && (lp p l).any (mp doc (q' :: qs) ls)
  | _, _, _ => false
def mt (doc : El) (s : Sel) (p : List Nat) : Bool := mp doc s.ps.reverse s.ls.reverse p
def Bd (doc : El) : Prop := doc.dep ≤ 900 ∧ doc.sz ≤ 900
theorem at_bd : ∀ (p : List Nat) (d e : El), d.at p = some e → p.length + e.dep ≤ d.dep ∧ ∀ i ∈ p, i < d.sz
  | [], d, e, h => by
    rw [at_nil] at h
    cases h
    exact ⟨by simp, fun i hi => by cases hi⟩
  | i :: p, d, e, h => by
    rw [at_cons] at h
    cases hx : d.c[i]? with
    | none => rw [hx] at h; cases h
    | some x =>
      rw [hx] at h
      obtain ⟨h1, h2⟩ := at_bd p x e h
      have hm := List.mem_of_getElem? hx
      have a := deps_le.mp (Nat.le_refl (deps d.c)) x hm
      have b := szs_mem hm
      have c := szs_len d.c
      have hi := (List.getElem?_eq_some_iff.mp hx).1
      rw [d.dep_eq, d.sz_eq, List.length_cons]
      refine ⟨by omega, fun j hj => ?_⟩
      rcases List.mem_cons.mp hj with hj | hj
      · omega
      · have := h2 j hj
        omega
theorem at_pre {d e : El} {p q : List Nat} (h : d.at (p ++ q) = some e) : ∃ x, d.at p = some x ∧ x.at q = some e := by
  rw [at_app] at h
  cases hx : d.at p with
  | none => rw [hx] at h; cases h
  | some x => rw [hx] at h; exact ⟨x, rfl, h⟩
theorem lp_ok {d e : El} {p : List Nat} {l : Lk} (h : d.at p = some e) : ∀ r ∈ lp p l, ∃ x, d.at r = some x := by
  intro r hr
  rcases List.eq_nil_or_concat p with rfl | ⟨q, i, rfl⟩
  · cases hr
  · rw [List.concat_eq_append] at h hr
    obtain ⟨x, hx, hx2⟩ := at_pre h
    have sib : ∀ j, j ≤ i → ∃ y, d.at (q ++ [j]) = some y := fun j hj => by
      rw [at_app, hx, Option.bind_some, at_cons]
      rw [at_cons] at hx2
      cases hc : x.c[i]? with
      | none => rw [hc] at hx2; cases hx2
      | some y =>
        have hlt := (List.getElem?_eq_some_iff.mp hc).1
        rw [List.getElem?_eq_getElem (by omega : j < x.c.length), Option.bind_some, at_nil]
        exact ⟨_, rfl⟩
    rw [lp_snoc] at hr
    cases l with
    | child => rw [List.mem_singleton.mp hr]; exact ⟨x, hx⟩
    | inside =>
      obtain ⟨k, _, rfl⟩ := List.mem_map.mp hr
      rw [← List.take_append_drop k (q ++ [i])] at h
      obtain ⟨y, hy, _⟩ := at_pre h
      exact ⟨y, hy⟩
    | next =>
      by_cases h0 : 0 < i
      · have hr : r ∈ [q ++ [i - 1]] := by simpa [h0] using hr
        rw [List.mem_singleton.mp hr]
        exact sib _ (by omega)
      · have hr : r ∈ ([] : List (List Nat)) := by simpa [h0] using hr
        cases hr
    | after =>
      obtain ⟨k, hk, rfl⟩ := List.mem_map.mp hr
      exact sib k (Nat.le_of_lt (List.mem_range.mp hk))
theorem mp_eq {doc : El} (hb : Bd doc) : ∀ (n : Nat) (qs : List Part) (ls : List Lk) (p : List Nat), qs ≠ [] → ls.length + 1 = qs.length → qs.length ≤ n → (∃ e, doc.at p = some e) →
    F_matches_parts n [.dat (eD doc), .dat (plD p), .dat (.tuple (qs.reverse.map pD)), .dat (.tuple (ls.reverse.map lD))] = .ok (.bool (mp doc qs ls p)) [.dat (eD doc), .dat (plD p), .dat (.tuple (qs.reverse.map pD)), .dat (.tuple (ls.reverse.map lD))]
  | 0, qs, _, _, h0, _, hn, _ => by cases qs with
    | nil => exact (h0 rfl).elim
    | cons _ _ => rw [List.length_cons] at hn; omega
  | n + 1, [], _, _, h0, _, _, _ => (h0 rfl).elim
  | n + 1, q :: qs, ls, p, h0, hl, hn, ⟨e, he⟩ => by
    obtain ⟨b1, b2⟩ := at_bd p doc e he
    have q1 := element_at_some he
    have q2 := fits_eq q e.k e.m (numOf p)
    have q3 := number_of_eq p
    have hn1 : negD (.int 1) = some (.int (-1)) := rfl
    have fa : fitsAt doc q p = fits q e.k e.m (numOf p) := by unfold fitsAt; rw [he]
    have rv : (q :: qs).reverse.map pD = qs.reverse.map pD ++ [pD q] := by rw [List.reverse_cons, List.map_append]; rfl
    generalize hP : PyData.tuple ((q :: qs).reverse.map pD) = P at *
    have ixP : ixD P (.int (-1)) = some (pD q) := by rw [← hP, rv]; exact ix_last _ _
    have slP : slD P none (some (-1)) = some (.tuple (qs.reverse.map pD)) := by rw [← hP, rv]; exact sl_init _ _
    have lenP : lenD [P] = some (nat (qs.length + 1)) := by rw [← hP, lenD_t, List.length_map, List.length_reverse, List.length_cons]
    cases qs with
    | nil =>
      have hm : mp doc [q] ls p = fitsAt doc q p := by cases ls <;> rfl
      rw [hm, fa]
      refine run_x (s := ?_) (st := [.dat (eD doc), .dat (plD p), .dat P, .dat (.tuple (ls.reverse.map lD)), .un, .un]) ?_ ?_
      rotate_left
      · unfold g_matches_parts
        refine (seq_nx (s1 := [.dat (eD doc), .dat (plD p), .dat P, .dat (.tuple (ls.reverse.map lD)), .dat (eD e), .un]) ?_).trans ?_
        · simp only [mVar, mC, mMap, mMap2, lift_some, lift_none, bind_ok, bind_err, bind_bad, mCons, mNil, mT, asB_bool, asB, mAnd, mOr, mNot, andV_eq, orV_eq, mNotV, mIf, chain_eq, chK_b, mCall, sSeq, sNext, sIf, sRet, sRetN, sDrop, sAsg, sRaise, sFor, sApp, sOwn, setO, ownAt, mOwn1, mPop0, sFrz, frz, sAug, ex_ok, ex_err, ex_bad, then_nx, then_ret, then_brk, then_ct, then_err, optG_some, optG_none, tName, setD, tTupG, tsCons, tsNil, Option.bind_some, List.getElem?_cons_zero, List.getElem?_cons_succ, List.set_cons_zero, List.set_cons_succ, List.length_cons, List.length_nil, Bool.not_true, Bool.not_false, Bool.false_eq_true, if_true, if_false, reduceIte, List.map_cons, List.map_nil, List.cons_append, List.nil_append, List.replicate, Nat.reduceSub, Nat.reduceAdd, Nat.reduceEqDiff, Option.map_some, Option.map_none, outs, Int.reduceAdd, Int.reduceSub, Int.reduceBEq, Int.reduceLT, Int.reduceLE, decide_true, decide_false, beq_self_eq_true, cast_0, cast_1, cast_2, cast_3, cast_4, cast_5, isi_str, isi_tup, addD_i, addI_i, subD_i, leD_i, leD_s, ltD_i, ltD_s, gtD_i, geD_i, eqD_i, neD_i, eqD_b, neD_b, eqD_s, lenD_l, lenD_t, absD_i, intD_i, tupD_l, tupD_t, lstD_l, lstD_t, mkT_0, mkT_1, mkT_2, mkT_3, mkL_0, mkL_1, sized_0, sized_1, ix_0, ix_1, ix_2, isT_t, isT_s, isT_l, isT_i, isT_n, isS_s, isS_t, isS_l, isS_i, isS_n, neD_s, Kd.inj, Mk.inj, Lk.inj, s_km, s_mk, List.length_append, L_c, L_i, L_n, L_a, L_cc, L_ic, L_ii, L_nc, L_ni, L_nn, L_ac, L_ai, L_an, L_aa, q1]
        rcases two (fits q e.k e.m (numOf p)) with hf | hf
        · simp only [mVar, mC, mMap, mMap2, lift_some, lift_none, bind_ok, bind_err, bind_bad, mCons, mNil, mT, asB_bool, asB, mAnd, mOr, mNot, andV_eq, orV_eq, mNotV, mIf, chain_eq, chK_b, mCall, sSeq, sNext, sIf, sRet, sRetN, sDrop, sAsg, sRaise, sFor, sApp, sOwn, setO, ownAt, mOwn1, mPop0, sFrz, frz, sAug, ex_ok, ex_err, ex_bad, then_nx, then_ret, then_brk, then_ct, then_err, optG_some, optG_none, tName, setD, tTupG, tsCons, tsNil, Option.bind_some, List.getElem?_cons_zero, List.getElem?_cons_succ, List.set_cons_zero, List.set_cons_succ, List.length_cons, List.length_nil, Bool.not_true, Bool.not_false, Bool.false_eq_true, if_true, if_false, reduceIte, List.map_cons, List.map_nil, List.cons_append, List.nil_append, List.replicate, Nat.reduceSub, Nat.reduceAdd, Nat.reduceEqDiff, Option.map_some, Option.map_none, outs, Int.reduceAdd, Int.reduceSub, Int.reduceBEq, Int.reduceLT, Int.reduceLE, decide_true, decide_false, beq_self_eq_true, cast_0, cast_1, cast_2, cast_3, cast_4, cast_5, isi_str, isi_tup, addD_i, addI_i, subD_i, leD_i, leD_s, ltD_i, ltD_s, gtD_i, geD_i, eqD_i, neD_i, eqD_b, neD_b, eqD_s, lenD_l, lenD_t, absD_i, intD_i, tupD_l, tupD_t, lstD_l, lstD_t, mkT_0, mkT_1, mkT_2, mkT_3, mkL_0, mkL_1, sized_0, sized_1, ix_0, ix_1, ix_2, isT_t, isT_s, isT_l, isT_i, isT_n, isS_s, isS_t, isS_l, isS_i, isS_n, neD_s, Kd.inj, Mk.inj, Lk.inj, s_km, s_mk, List.length_append, L_c, L_i, L_n, L_a, L_cc, L_ic, L_ii, L_nc, L_ni, L_nn, L_ac, L_ai, L_an, L_aa, hn1, ixP, eD_0, eD_1, q3, q2, hf, lenP, Nat.zero_add]
          rfl
        · simp only [mVar, mC, mMap, mMap2, lift_some, lift_none, bind_ok, bind_err, bind_bad, mCons, mNil, mT, asB_bool, asB, mAnd, mOr, mNot, andV_eq, orV_eq, mNotV, mIf, chain_eq, chK_b, mCall, sSeq, sNext, sIf, sRet, sRetN, sDrop, sAsg, sRaise, sFor, sApp, sOwn, setO, ownAt, mOwn1, mPop0, sFrz, frz, sAug, ex_ok, ex_err, ex_bad, then_nx, then_ret, then_brk, then_ct, then_err, optG_some, optG_none, tName, setD, tTupG, tsCons, tsNil, Option.bind_some, List.getElem?_cons_zero, List.getElem?_cons_succ, List.set_cons_zero, List.set_cons_succ, List.length_cons, List.length_nil, Bool.not_true, Bool.not_false, Bool.false_eq_true, if_true, if_false, reduceIte, List.map_cons, List.map_nil, List.cons_append, List.nil_append, List.replicate, Nat.reduceSub, Nat.reduceAdd, Nat.reduceEqDiff, Option.map_some, Option.map_none, outs, Int.reduceAdd, Int.reduceSub, Int.reduceBEq, Int.reduceLT, Int.reduceLE, decide_true, decide_false, beq_self_eq_true, cast_0, cast_1, cast_2, cast_3, cast_4, cast_5, isi_str, isi_tup, addD_i, addI_i, subD_i, leD_i, leD_s, ltD_i, ltD_s, gtD_i, geD_i, eqD_i, neD_i, eqD_b, neD_b, eqD_s, lenD_l, lenD_t, absD_i, intD_i, tupD_l, tupD_t, lstD_l, lstD_t, mkT_0, mkT_1, mkT_2, mkT_3, mkL_0, mkL_1, sized_0, sized_1, ix_0, ix_1, ix_2, isT_t, isT_s, isT_l, isT_i, isT_n, isS_s, isS_t, isS_l, isS_i, isS_n, neD_s, Kd.inj, Mk.inj, Lk.inj, s_km, s_mk, List.length_append, L_c, L_i, L_n, L_a, L_cc, L_ic, L_ii, L_nc, L_ni, L_nn, L_ac, L_ai, L_an, L_aa, hn1, ixP, eD_0, eD_1, q3, q2, hf]
      · cases fits q e.k e.m (numOf p) <;> rfl
    | cons q' qr =>
      cases ls with
      | nil => simp at hl
      | cons l lr =>
        rw [List.length_cons, List.length_cons, List.length_cons] at hl
        rw [List.length_cons] at hn
        have hm : mp doc (q :: q' :: qr) (l :: lr) p = (fitsAt doc q p && (lp p l).any (mp doc (q' :: qr) lr)) := rfl
        have rl : (l :: lr).reverse.map lD = lr.reverse.map lD ++ [lD l] := by rw [List.reverse_cons, List.map_append]; rfl
        generalize hL : PyData.tuple ((l :: lr).reverse.map lD) = Ls at *
        have ixL : ixD Ls (.int (-1)) = some (lD l) := by rw [← hL, rl]; exact ix_last _ _
        have slL : slD Ls none (some (-1)) = some (.tuple (lr.reverse.map lD)) := by rw [← hL, rl]; exact sl_init _ _
        have q4 := linked_eq p l (by have := hb.1; omega) fun i hi => by have := b2 i hi; have := hb.2; omega
        have hc : items (.list ((lp p l).map plD)) = some ((lp p l).map plD) := rfl
        have z0 : (((qr.length + 1 + 1 : Nat) : Int) == 1) = false := by rw [beq_eq_false_iff_ne]; omega
        have loop := for_ret_list (t := tName 5) (body := b_matches_parts_1 (F_matches_parts n)) plD (.bool true) (mp doc (q' :: qr) lr) (fun s => ∃ z, NO z ∧ s = [.dat (eD doc), .dat (plD p), .dat P, .dat Ls, .dat (eD e), z]) (fun s => ∃ z, s = [.dat (eD doc), .dat (plD p), .dat P, .dat Ls, .dat (eD e), z])
          (lp p l) [.dat (eD doc), .dat (plD p), .dat P, .dat Ls, .dat (eD e), .un] ⟨.un, no_un, rfl⟩ fun r hr s ⟨z, hz, hs⟩ => by
            subst hs
            have ih := mp_eq hb n (q' :: qr) lr r (by simp) (by rw [List.length_cons]; omega) (by omega) (lp_ok he r hr)
            refine ⟨_, set_no hz rfl, fun h => ⟨[.dat (eD doc), .dat (plD p), .dat P, .dat Ls, .dat (eD e), .dat (plD r)], ?_, _, no_dat _, rfl⟩, fun h => ⟨[.dat (eD doc), .dat (plD p), .dat P, .dat Ls, .dat (eD e), .dat (plD r)], ?_, _, rfl⟩⟩ <;>
            · unfold b_matches_parts_1
              simp only [mVar, mC, mMap, mMap2, lift_some, lift_none, bind_ok, bind_err, bind_bad, mCons, mNil, mT, asB_bool, asB, mAnd, mOr, mNot, andV_eq, orV_eq, mNotV, mIf, chain_eq, chK_b, mCall, sSeq, sNext, sIf, sRet, sRetN, sDrop, sAsg, sRaise, sFor, sApp, sOwn, setO, ownAt, mOwn1, mPop0, sFrz, frz, sAug, ex_ok, ex_err, ex_bad, then_nx, then_ret, then_brk, then_ct, then_err, optG_some, optG_none, tName, setD, tTupG, tsCons, tsNil, Option.bind_some, List.getElem?_cons_zero, List.getElem?_cons_succ, List.set_cons_zero, List.set_cons_succ, List.length_cons, List.length_nil, Bool.not_true, Bool.not_false, Bool.false_eq_true, if_true, if_false, reduceIte, List.map_cons, List.map_nil, List.cons_append, List.nil_append, List.replicate, Nat.reduceSub, Nat.reduceAdd, Nat.reduceEqDiff, Option.map_some, Option.map_none, outs, Int.reduceAdd, Int.reduceSub, Int.reduceBEq, Int.reduceLT, Int.reduceLE, decide_true, decide_false, beq_self_eq_true, cast_0, cast_1, cast_2, cast_3, cast_4, cast_5, isi_str, isi_tup, addD_i, addI_i, subD_i, leD_i, leD_s, ltD_i, ltD_s, gtD_i, geD_i, eqD_i, neD_i, eqD_b, neD_b, eqD_s, lenD_l, lenD_t, absD_i, intD_i, tupD_l, tupD_t, lstD_l, lstD_t, mkT_0, mkT_1, mkT_2, mkT_3, mkL_0, mkL_1, sized_0, sized_1, ix_0, ix_1, ix_2, isT_t, isT_s, isT_l, isT_i, isT_n, isS_s, isS_t, isS_l, isS_i, isS_n, neD_s, Kd.inj, Mk.inj, Lk.inj, s_km, s_mk, List.length_append, L_c, L_i, L_n, L_a, L_cc, L_ic, L_ii, L_nc, L_ni, L_nn, L_ac, L_ai, L_an, L_aa, mSl, mPart, hn1, slP, slL, ih, h]
        rw [hm, fa]
        have main : ∃ r, g_matches_parts (F_matches_parts n) [.dat (eD doc), .dat (plD p), .dat P, .dat Ls, .un, .un] = .ret (.bool (fits q e.k e.m (numOf p) && (lp p l).any (mp doc (q' :: qr) lr))) (.dat (eD doc) :: .dat (plD p) :: .dat P :: .dat Ls :: r) := by
          unfold g_matches_parts
          have st := seq_nx (g := sAsg (mCall 2 F_element_at (mCons (mVar 0) (mCons (mVar 1) mNil))) (tName 4)) (s := [.dat (eD doc), .dat (plD p), .dat P, .dat Ls, .un, .un]) (s1 := [.dat (eD doc), .dat (plD p), .dat P, .dat Ls, .dat (eD e), .un]) (h := sSeq (sIf (mNot (mT (mCall 4 F_fits (mCons (mMap2 (mVar 2) (mMap (mC (.int 1)) negD) ixD) (mCons (mMap2 (mVar 4) (mC (.int 0)) ixD) (mCons (mMap2 (mVar 4) (mC (.int 1)) ixD) (mCons (mCall 1 F_number_of (mCons (mVar 1) mNil)) mNil))))))) (sRet (mC (.bool false))) sNext) (sSeq (sIf (mT (mMap2 (mMap (mCons (mVar 2) mNil) lenD) (mC (.int 1)) eqD)) (sRet (mC (.bool true))) sNext) (sSeq (sFor (mMap (mCall 2 F_linked_places (mCons (mVar 1) (mCons (mMap2 (mVar 3) (mMap (mC (.int 1)) negD) ixD) mNil))) items) (tName 5) (b_matches_parts_1 (F_matches_parts n))) (sRet (mC (.bool false)))))) (by simp only [mVar, mC, mMap, mMap2, lift_some, lift_none, bind_ok, bind_err, bind_bad, mCons, mNil, mT, asB_bool, asB, mAnd, mOr, mNot, andV_eq, orV_eq, mNotV, mIf, chain_eq, chK_b, mCall, sSeq, sNext, sIf, sRet, sRetN, sDrop, sAsg, sRaise, sFor, sApp, sOwn, setO, ownAt, mOwn1, mPop0, sFrz, frz, sAug, ex_ok, ex_err, ex_bad, then_nx, then_ret, then_brk, then_ct, then_err, optG_some, optG_none, tName, setD, tTupG, tsCons, tsNil, Option.bind_some, List.getElem?_cons_zero, List.getElem?_cons_succ, List.set_cons_zero, List.set_cons_succ, List.length_cons, List.length_nil, Bool.not_true, Bool.not_false, Bool.false_eq_true, if_true, if_false, reduceIte, List.map_cons, List.map_nil, List.cons_append, List.nil_append, List.replicate, Nat.reduceSub, Nat.reduceAdd, Nat.reduceEqDiff, Option.map_some, Option.map_none, outs, Int.reduceAdd, Int.reduceSub, Int.reduceBEq, Int.reduceLT, Int.reduceLE, decide_true, decide_false, beq_self_eq_true, cast_0, cast_1, cast_2, cast_3, cast_4, cast_5, isi_str, isi_tup, addD_i, addI_i, subD_i, leD_i, leD_s, ltD_i, ltD_s, gtD_i, geD_i, eqD_i, neD_i, eqD_b, neD_b, eqD_s, lenD_l, lenD_t, absD_i, intD_i, tupD_l, tupD_t, lstD_l, lstD_t, mkT_0, mkT_1, mkT_2, mkT_3, mkL_0, mkL_1, sized_0, sized_1, ix_0, ix_1, ix_2, isT_t, isT_s, isT_l, isT_i, isT_n, isS_s, isS_t, isS_l, isS_i, isS_n, neD_s, Kd.inj, Mk.inj, Lk.inj, s_km, s_mk, List.length_append, L_c, L_i, L_n, L_a, L_cc, L_ic, L_ii, L_nc, L_ni, L_nn, L_ac, L_ai, L_an, L_aa, q1])
          rw [st]
          rcases two (fits q e.k e.m (numOf p)) with hf | hf
          · rw [hf, Bool.true_and]
            rcases seq_for (s := [.dat (eD doc), .dat (plD p), .dat P, .dat Ls, .dat (eD e), .un]) (h := sRet (mC (.bool false))) (f := mMap (mCall 2 F_linked_places (mCons (mVar 1) (mCons (mMap2 (mVar 3) (mMap (mC (.int 1)) negD) ixD) mNil))) items) (by simp only [mVar, mC, mMap, mMap2, lift_some, lift_none, bind_ok, bind_err, bind_bad, mCons, mNil, mT, asB_bool, asB, mAnd, mOr, mNot, andV_eq, orV_eq, mNotV, mIf, chain_eq, chK_b, mCall, sSeq, sNext, sIf, sRet, sRetN, sDrop, sAsg, sRaise, sFor, sApp, sOwn, setO, ownAt, mOwn1, mPop0, sFrz, frz, sAug, ex_ok, ex_err, ex_bad, then_nx, then_ret, then_brk, then_ct, then_err, optG_some, optG_none, tName, setD, tTupG, tsCons, tsNil, Option.bind_some, List.getElem?_cons_zero, List.getElem?_cons_succ, List.set_cons_zero, List.set_cons_succ, List.length_cons, List.length_nil, Bool.not_true, Bool.not_false, Bool.false_eq_true, if_true, if_false, reduceIte, List.map_cons, List.map_nil, List.cons_append, List.nil_append, List.replicate, Nat.reduceSub, Nat.reduceAdd, Nat.reduceEqDiff, Option.map_some, Option.map_none, outs, Int.reduceAdd, Int.reduceSub, Int.reduceBEq, Int.reduceLT, Int.reduceLE, decide_true, decide_false, beq_self_eq_true, cast_0, cast_1, cast_2, cast_3, cast_4, cast_5, isi_str, isi_tup, addD_i, addI_i, subD_i, leD_i, leD_s, ltD_i, ltD_s, gtD_i, geD_i, eqD_i, neD_i, eqD_b, neD_b, eqD_s, lenD_l, lenD_t, absD_i, intD_i, tupD_l, tupD_t, lstD_l, lstD_t, mkT_0, mkT_1, mkT_2, mkT_3, mkL_0, mkL_1, sized_0, sized_1, ix_0, ix_1, ix_2, isT_t, isT_s, isT_l, isT_i, isT_n, isS_s, isS_t, isS_l, isS_i, isS_n, neD_s, Kd.inj, Mk.inj, Lk.inj, s_km, s_mk, List.length_append, L_c, L_i, L_n, L_a, L_cc, L_ic, L_ii, L_nc, L_ni, L_nn, L_ac, L_ai, L_an, L_aa, hn1, ixL, q4, hc]) loop with ⟨hx, s', e1, z, rfl⟩ | ⟨hx, s', e1, z, hz, rfl⟩
            · refine ⟨[.dat (eD e), z], ?_⟩
              rw [hx, ← e1]
              refine (seq_nx (s1 := [.dat (eD doc), .dat (plD p), .dat P, .dat Ls, .dat (eD e), .un]) ?_).trans ?_
              · simp only [mVar, mC, mMap, mMap2, lift_some, lift_none, bind_ok, bind_err, bind_bad, mCons, mNil, mT, asB_bool, asB, mAnd, mOr, mNot, andV_eq, orV_eq, mNotV, mIf, chain_eq, chK_b, mCall, sSeq, sNext, sIf, sRet, sRetN, sDrop, sAsg, sRaise, sFor, sApp, sOwn, setO, ownAt, mOwn1, mPop0, sFrz, frz, sAug, ex_ok, ex_err, ex_bad, then_nx, then_ret, then_brk, then_ct, then_err, optG_some, optG_none, tName, setD, tTupG, tsCons, tsNil, Option.bind_some, List.getElem?_cons_zero, List.getElem?_cons_succ, List.set_cons_zero, List.set_cons_succ, List.length_cons, List.length_nil, Bool.not_true, Bool.not_false, Bool.false_eq_true, if_true, if_false, reduceIte, List.map_cons, List.map_nil, List.cons_append, List.nil_append, List.replicate, Nat.reduceSub, Nat.reduceAdd, Nat.reduceEqDiff, Option.map_some, Option.map_none, outs, Int.reduceAdd, Int.reduceSub, Int.reduceBEq, Int.reduceLT, Int.reduceLE, decide_true, decide_false, beq_self_eq_true, cast_0, cast_1, cast_2, cast_3, cast_4, cast_5, isi_str, isi_tup, addD_i, addI_i, subD_i, leD_i, leD_s, ltD_i, ltD_s, gtD_i, geD_i, eqD_i, neD_i, eqD_b, neD_b, eqD_s, lenD_l, lenD_t, absD_i, intD_i, tupD_l, tupD_t, lstD_l, lstD_t, mkT_0, mkT_1, mkT_2, mkT_3, mkL_0, mkL_1, sized_0, sized_1, ix_0, ix_1, ix_2, isT_t, isT_s, isT_l, isT_i, isT_n, isS_s, isS_t, isS_l, isS_i, isS_n, neD_s, Kd.inj, Mk.inj, Lk.inj, s_km, s_mk, List.length_append, L_c, L_i, L_n, L_a, L_cc, L_ic, L_ii, L_nc, L_ni, L_nn, L_ac, L_ai, L_an, L_aa, hn1, ixP, eD_0, eD_1, q3, q2, hf]
              refine (seq_nx (s1 := [.dat (eD doc), .dat (plD p), .dat P, .dat Ls, .dat (eD e), .un]) ?_).trans rfl
              simp only [mVar, mC, mMap, mMap2, lift_some, lift_none, bind_ok, bind_err, bind_bad, mCons, mNil, mT, asB_bool, asB, mAnd, mOr, mNot, andV_eq, orV_eq, mNotV, mIf, chain_eq, chK_b, mCall, sSeq, sNext, sIf, sRet, sRetN, sDrop, sAsg, sRaise, sFor, sApp, sOwn, setO, ownAt, mOwn1, mPop0, sFrz, frz, sAug, ex_ok, ex_err, ex_bad, then_nx, then_ret, then_brk, then_ct, then_err, optG_some, optG_none, tName, setD, tTupG, tsCons, tsNil, Option.bind_some, List.getElem?_cons_zero, List.getElem?_cons_succ, List.set_cons_zero, List.set_cons_succ, List.length_cons, List.length_nil, Bool.not_true, Bool.not_false, Bool.false_eq_true, if_true, if_false, reduceIte, List.map_cons, List.map_nil, List.cons_append, List.nil_append, List.replicate, Nat.reduceSub, Nat.reduceAdd, Nat.reduceEqDiff, Option.map_some, Option.map_none, outs, Int.reduceAdd, Int.reduceSub, Int.reduceBEq, Int.reduceLT, Int.reduceLE, decide_true, decide_false, beq_self_eq_true, cast_0, cast_1, cast_2, cast_3, cast_4, cast_5, isi_str, isi_tup, addD_i, addI_i, subD_i, leD_i, leD_s, ltD_i, ltD_s, gtD_i, geD_i, eqD_i, neD_i, eqD_b, neD_b, eqD_s, lenD_l, lenD_t, absD_i, intD_i, tupD_l, tupD_t, lstD_l, lstD_t, mkT_0, mkT_1, mkT_2, mkT_3, mkL_0, mkL_1, sized_0, sized_1, ix_0, ix_1, ix_2, isT_t, isT_s, isT_l, isT_i, isT_n, isS_s, isS_t, isS_l, isS_i, isS_n, neD_s, Kd.inj, Mk.inj, Lk.inj, s_km, s_mk, List.length_append, L_c, L_i, L_n, L_a, L_cc, L_ic, L_ii, L_nc, L_ni, L_nn, L_ac, L_ai, L_an, L_aa, lenP, z0]
            · refine ⟨[.dat (eD e), z], ?_⟩
              rw [hx]
              refine (seq_nx (s1 := [.dat (eD doc), .dat (plD p), .dat P, .dat Ls, .dat (eD e), .un]) ?_).trans ?_
              · simp only [mVar, mC, mMap, mMap2, lift_some, lift_none, bind_ok, bind_err, bind_bad, mCons, mNil, mT, asB_bool, asB, mAnd, mOr, mNot, andV_eq, orV_eq, mNotV, mIf, chain_eq, chK_b, mCall, sSeq, sNext, sIf, sRet, sRetN, sDrop, sAsg, sRaise, sFor, sApp, sOwn, setO, ownAt, mOwn1, mPop0, sFrz, frz, sAug, ex_ok, ex_err, ex_bad, then_nx, then_ret, then_brk, then_ct, then_err, optG_some, optG_none, tName, setD, tTupG, tsCons, tsNil, Option.bind_some, List.getElem?_cons_zero, List.getElem?_cons_succ, List.set_cons_zero, List.set_cons_succ, List.length_cons, List.length_nil, Bool.not_true, Bool.not_false, Bool.false_eq_true, if_true, if_false, reduceIte, List.map_cons, List.map_nil, List.cons_append, List.nil_append, List.replicate, Nat.reduceSub, Nat.reduceAdd, Nat.reduceEqDiff, Option.map_some, Option.map_none, outs, Int.reduceAdd, Int.reduceSub, Int.reduceBEq, Int.reduceLT, Int.reduceLE, decide_true, decide_false, beq_self_eq_true, cast_0, cast_1, cast_2, cast_3, cast_4, cast_5, isi_str, isi_tup, addD_i, addI_i, subD_i, leD_i, leD_s, ltD_i, ltD_s, gtD_i, geD_i, eqD_i, neD_i, eqD_b, neD_b, eqD_s, lenD_l, lenD_t, absD_i, intD_i, tupD_l, tupD_t, lstD_l, lstD_t, mkT_0, mkT_1, mkT_2, mkT_3, mkL_0, mkL_1, sized_0, sized_1, ix_0, ix_1, ix_2, isT_t, isT_s, isT_l, isT_i, isT_n, isS_s, isS_t, isS_l, isS_i, isS_n, neD_s, Kd.inj, Mk.inj, Lk.inj, s_km, s_mk, List.length_append, L_c, L_i, L_n, L_a, L_cc, L_ic, L_ii, L_nc, L_ni, L_nn, L_ac, L_ai, L_an, L_aa, hn1, ixP, eD_0, eD_1, q3, q2, hf]
              refine (seq_nx (s1 := [.dat (eD doc), .dat (plD p), .dat P, .dat Ls, .dat (eD e), .un]) ?_).trans ?_
              · simp only [mVar, mC, mMap, mMap2, lift_some, lift_none, bind_ok, bind_err, bind_bad, mCons, mNil, mT, asB_bool, asB, mAnd, mOr, mNot, andV_eq, orV_eq, mNotV, mIf, chain_eq, chK_b, mCall, sSeq, sNext, sIf, sRet, sRetN, sDrop, sAsg, sRaise, sFor, sApp, sOwn, setO, ownAt, mOwn1, mPop0, sFrz, frz, sAug, ex_ok, ex_err, ex_bad, then_nx, then_ret, then_brk, then_ct, then_err, optG_some, optG_none, tName, setD, tTupG, tsCons, tsNil, Option.bind_some, List.getElem?_cons_zero, List.getElem?_cons_succ, List.set_cons_zero, List.set_cons_succ, List.length_cons, List.length_nil, Bool.not_true, Bool.not_false, Bool.false_eq_true, if_true, if_false, reduceIte, List.map_cons, List.map_nil, List.cons_append, List.nil_append, List.replicate, Nat.reduceSub, Nat.reduceAdd, Nat.reduceEqDiff, Option.map_some, Option.map_none, outs, Int.reduceAdd, Int.reduceSub, Int.reduceBEq, Int.reduceLT, Int.reduceLE, decide_true, decide_false, beq_self_eq_true, cast_0, cast_1, cast_2, cast_3, cast_4, cast_5, isi_str, isi_tup, addD_i, addI_i, subD_i, leD_i, leD_s, ltD_i, ltD_s, gtD_i, geD_i, eqD_i, neD_i, eqD_b, neD_b, eqD_s, lenD_l, lenD_t, absD_i, intD_i, tupD_l, tupD_t, lstD_l, lstD_t, mkT_0, mkT_1, mkT_2, mkT_3, mkL_0, mkL_1, sized_0, sized_1, ix_0, ix_1, ix_2, isT_t, isT_s, isT_l, isT_i, isT_n, isS_s, isS_t, isS_l, isS_i, isS_n, neD_s, Kd.inj, Mk.inj, Lk.inj, s_km, s_mk, List.length_append, L_c, L_i, L_n, L_a, L_cc, L_ic, L_ii, L_nc, L_ni, L_nn, L_ac, L_ai, L_an, L_aa, lenP, z0]
              rw [e1]
              rfl
          · refine ⟨[.dat (eD e), .un], ?_⟩
            rw [hf, Bool.false_and]
            simp only [mVar, mC, mMap, mMap2, lift_some, lift_none, bind_ok, bind_err, bind_bad, mCons, mNil, mT, asB_bool, asB, mAnd, mOr, mNot, andV_eq, orV_eq, mNotV, mIf, chain_eq, chK_b, mCall, sSeq, sNext, sIf, sRet, sRetN, sDrop, sAsg, sRaise, sFor, sApp, sOwn, setO, ownAt, mOwn1, mPop0, sFrz, frz, sAug, ex_ok, ex_err, ex_bad, then_nx, then_ret, then_brk, then_ct, then_err, optG_some, optG_none, tName, setD, tTupG, tsCons, tsNil, Option.bind_some, List.getElem?_cons_zero, List.getElem?_cons_succ, List.set_cons_zero, List.set_cons_succ, List.length_cons, List.length_nil, Bool.not_true, Bool.not_false, Bool.false_eq_true, if_true, if_false, reduceIte, List.map_cons, List.map_nil, List.cons_append, List.nil_append, List.replicate, Nat.reduceSub, Nat.reduceAdd, Nat.reduceEqDiff, Option.map_some, Option.map_none, outs, Int.reduceAdd, Int.reduceSub, Int.reduceBEq, Int.reduceLT, Int.reduceLE, decide_true, decide_false, beq_self_eq_true, cast_0, cast_1, cast_2, cast_3, cast_4, cast_5, isi_str, isi_tup, addD_i, addI_i, subD_i, leD_i, leD_s, ltD_i, ltD_s, gtD_i, geD_i, eqD_i, neD_i, eqD_b, neD_b, eqD_s, lenD_l, lenD_t, absD_i, intD_i, tupD_l, tupD_t, lstD_l, lstD_t, mkT_0, mkT_1, mkT_2, mkT_3, mkL_0, mkL_1, sized_0, sized_1, ix_0, ix_1, ix_2, isT_t, isT_s, isT_l, isT_i, isT_n, isS_s, isS_t, isS_l, isS_i, isS_n, neD_s, Kd.inj, Mk.inj, Lk.inj, s_km, s_mk, List.length_append, L_c, L_i, L_n, L_a, L_cc, L_ic, L_ii, L_nc, L_ni, L_nn, L_ac, L_ai, L_an, L_aa, hn1, ixP, eD_0, eD_1, q3, q2, hf]
        obtain ⟨r, main⟩ := main
        exact run_x (st := [.dat (eD doc), .dat (plD p), .dat P, .dat Ls, .un, .un]) main rfl
def Sel.fine (s : Sel) : Prop := s.ls.length + 1 = s.ps.length ∧ s.ps.length ≤ 5
theorem matches_eq {doc : El} (hb : Bd doc) {s : Sel} (hs : s.fine) {p : List Nat} (hp : ∃ e, doc.at p = some e) : F_matches [.dat (eD doc), .dat (plD p), .dat (sD s)] = .ok (.bool (mt doc s p)) [.dat (eD doc), .dat (plD p), .dat (sD s)] := by
  have q := mp_eq hb 5 s.ps.reverse s.ls.reverse p (by
    intro h
    have : s.ps.reverse.length = 0 := by rw [h]; rfl
    rw [List.length_reverse] at this
    have := hs.1
    omega) (by rw [List.length_reverse, List.length_reverse]; exact hs.1) (by rw [List.length_reverse]; exact hs.2) hp
  rw [List.reverse_reverse, List.reverse_reverse] at q
  refine run_x (s := ?_) (st := [.dat (eD doc), .dat (plD p), .dat (sD s)]) ?_ ?_
  rotate_left
  · unfold g_matches
    simp only [mVar, mC, mMap, mMap2, lift_some, lift_none, bind_ok, bind_err, bind_bad, mCons, mNil, mT, asB_bool, asB, mAnd, mOr, mNot, andV_eq, orV_eq, mNotV, mIf, chain_eq, chK_b, mCall, sSeq, sNext, sIf, sRet, sRetN, sDrop, sAsg, sRaise, sFor, sApp, sOwn, setO, ownAt, mOwn1, mPop0, sFrz, frz, sAug, ex_ok, ex_err, ex_bad, then_nx, then_ret, then_brk, then_ct, then_err, optG_some, optG_none, tName, setD, tTupG, tsCons, tsNil, Option.bind_some, List.getElem?_cons_zero, List.getElem?_cons_succ, List.set_cons_zero, List.set_cons_succ, List.length_cons, List.length_nil, Bool.not_true, Bool.not_false, Bool.false_eq_true, if_true, if_false, reduceIte, List.map_cons, List.map_nil, List.cons_append, List.nil_append, List.replicate, Nat.reduceSub, Nat.reduceAdd, Nat.reduceEqDiff, Option.map_some, Option.map_none, outs, Int.reduceAdd, Int.reduceSub, Int.reduceBEq, Int.reduceLT, Int.reduceLE, decide_true, decide_false, beq_self_eq_true, cast_0, cast_1, cast_2, cast_3, cast_4, cast_5, isi_str, isi_tup, addD_i, addI_i, subD_i, leD_i, leD_s, ltD_i, ltD_s, gtD_i, geD_i, eqD_i, neD_i, eqD_b, neD_b, eqD_s, lenD_l, lenD_t, absD_i, intD_i, tupD_l, tupD_t, lstD_l, lstD_t, mkT_0, mkT_1, mkT_2, mkT_3, mkL_0, mkL_1, sized_0, sized_1, ix_0, ix_1, ix_2, isT_t, isT_s, isT_l, isT_i, isT_n, isS_s, isS_t, isS_l, isS_i, isS_n, neD_s, Kd.inj, Mk.inj, Lk.inj, s_km, s_mk, List.length_append, L_c, L_i, L_n, L_a, L_cc, L_ic, L_ii, L_nc, L_ni, L_nn, L_ac, L_ai, L_an, L_aa, sD_0, sD_1, q]
    rfl
  · rfl
theorem matches_any_eq {doc : El} (hb : Bd doc) {ss : List Sel} (hs : ∀ s ∈ ss, s.fine) {p : List Nat} (hp : ∃ e, doc.at p = some e) : F_matches_any [.dat (eD doc), .dat (plD p), .dat (.tuple (ss.map sD))] = .ok (.bool (ss.any fun s => mt doc s p)) [.dat (eD doc), .dat (plD p), .dat (.tuple (ss.map sD))] := by
  have q := any_typed (vs := [3]) (t := tName 3) (elt := e_matches_any_1) (s := [.dat (eD doc), .dat (plD p), .dat (.tuple (ss.map sD)), .un]) sD (fun s => mt doc s p) (xs := ss) fun s h => ⟨[.dat (eD doc), .dat (plD p), .dat (.tuple (ss.map sD)), .dat (sD s)], rfl, by
    unfold e_matches_any_1
    simp only [mVar, mC, mMap, mMap2, lift_some, lift_none, bind_ok, bind_err, bind_bad, mCons, mNil, mT, asB_bool, asB, mAnd, mOr, mNot, andV_eq, orV_eq, mNotV, mIf, chain_eq, chK_b, mCall, sSeq, sNext, sIf, sRet, sRetN, sDrop, sAsg, sRaise, sFor, sApp, sOwn, setO, ownAt, mOwn1, mPop0, sFrz, frz, sAug, ex_ok, ex_err, ex_bad, then_nx, then_ret, then_brk, then_ct, then_err, optG_some, optG_none, tName, setD, tTupG, tsCons, tsNil, Option.bind_some, List.getElem?_cons_zero, List.getElem?_cons_succ, List.set_cons_zero, List.set_cons_succ, List.length_cons, List.length_nil, Bool.not_true, Bool.not_false, Bool.false_eq_true, if_true, if_false, reduceIte, List.map_cons, List.map_nil, List.cons_append, List.nil_append, List.replicate, Nat.reduceSub, Nat.reduceAdd, Nat.reduceEqDiff, Option.map_some, Option.map_none, outs, Int.reduceAdd, Int.reduceSub, Int.reduceBEq, Int.reduceLT, Int.reduceLE, decide_true, decide_false, beq_self_eq_true, cast_0, cast_1, cast_2, cast_3, cast_4, cast_5, isi_str, isi_tup, addD_i, addI_i, subD_i, leD_i, leD_s, ltD_i, ltD_s, gtD_i, geD_i, eqD_i, neD_i, eqD_b, neD_b, eqD_s, lenD_l, lenD_t, absD_i, intD_i, tupD_l, tupD_t, lstD_l, lstD_t, mkT_0, mkT_1, mkT_2, mkT_3, mkL_0, mkL_1, sized_0, sized_1, ix_0, ix_1, ix_2, isT_t, isT_s, isT_l, isT_i, isT_n, isS_s, isS_t, isS_l, isS_i, isS_n, neD_s, Kd.inj, Mk.inj, Lk.inj, s_km, s_mk, List.length_append, L_c, L_i, L_n, L_a, L_cc, L_ic, L_ii, L_nc, L_ni, L_nn, L_ac, L_ai, L_an, L_aa, matches_eq hb (hs s h) hp], rfl⟩
  have hc : items (.tuple (ss.map sD)) = some (ss.map sD) := rfl
  have w3 : ∀ x y z u : Sl, wipeS [x, y, z, u] [3] = [x, y, z, .un] := fun _ _ _ _ => rfl
  have n3 : ∀ x y z : Sl, noOwn [3] [x, y, z, .un] = true := fun _ _ _ => rfl
  refine run_x (s := ?_) (st := [.dat (eD doc), .dat (plD p), .dat (.tuple (ss.map sD)), .un]) ?_ ?_
  rotate_left
  · unfold g_matches_any mAny
    simp only [mVar, mC, mMap, mMap2, lift_some, lift_none, bind_ok, bind_err, bind_bad, mCons, mNil, mT, asB_bool, asB, mAnd, mOr, mNot, andV_eq, orV_eq, mNotV, mIf, chain_eq, chK_b, mCall, sSeq, sNext, sIf, sRet, sRetN, sDrop, sAsg, sRaise, sFor, sApp, sOwn, setO, ownAt, mOwn1, mPop0, sFrz, frz, sAug, ex_ok, ex_err, ex_bad, then_nx, then_ret, then_brk, then_ct, then_err, optG_some, optG_none, tName, setD, tTupG, tsCons, tsNil, Option.bind_some, List.getElem?_cons_zero, List.getElem?_cons_succ, List.set_cons_zero, List.set_cons_succ, List.length_cons, List.length_nil, Bool.not_true, Bool.not_false, Bool.false_eq_true, if_true, if_false, reduceIte, List.map_cons, List.map_nil, List.cons_append, List.nil_append, List.replicate, Nat.reduceSub, Nat.reduceAdd, Nat.reduceEqDiff, Option.map_some, Option.map_none, outs, Int.reduceAdd, Int.reduceSub, Int.reduceBEq, Int.reduceLT, Int.reduceLE, decide_true, decide_false, beq_self_eq_true, cast_0, cast_1, cast_2, cast_3, cast_4, cast_5, isi_str, isi_tup, addD_i, addI_i, subD_i, leD_i, leD_s, ltD_i, ltD_s, gtD_i, geD_i, eqD_i, neD_i, eqD_b, neD_b, eqD_s, lenD_l, lenD_t, absD_i, intD_i, tupD_l, tupD_t, lstD_l, lstD_t, mkT_0, mkT_1, mkT_2, mkT_3, mkL_0, mkL_1, sized_0, sized_1, ix_0, ix_1, ix_2, isT_t, isT_s, isT_l, isT_i, isT_n, isS_s, isS_t, isS_l, isS_i, isS_n, neD_s, Kd.inj, Mk.inj, Lk.inj, s_km, s_mk, List.length_append, L_c, L_i, L_n, L_a, L_cc, L_ic, L_ii, L_nc, L_ni, L_nn, L_ac, L_ai, L_an, L_aa, hc, w3, n3, q]
    rfl
  · rfl
mutual
theorem places_ok : ∀ (e : El) (p : List Nat), p ∈ places e → ∃ x, e.at p = some x
  | .mk k m c, p, h => by
    rw [places] at h
    rcases List.mem_cons.mp h with h | h
    · rw [h]; exact ⟨_, at_nil _⟩
    · obtain ⟨i, q, x, rfl, hx, hq⟩ := placesF_ok 0 c p h
      rw [Nat.zero_add, at_cons]
      show ∃ y, (c[i]?).bind (·.at q) = some y
      rw [hx]
      exact hq
theorem placesF_ok : ∀ (i : Nat) (c : List El) (p : List Nat), p ∈ placesF i c → ∃ j q x, p = (i + j) :: q ∧ c[j]? = some x ∧ ∃ y, x.at q = some y
  | _, [], p, h => by rw [placesF] at h; cases h
  | i, e :: r, p, h => by
    rw [placesF] at h
    rcases List.mem_append.mp h with h | h
    · obtain ⟨q, hq, rfl⟩ := List.mem_map.mp h
      exact ⟨0, q, e, rfl, rfl, places_ok e q hq⟩
    · obtain ⟨j, q, x, rfl, hx, hq⟩ := placesF_ok (i + 1) r p h
      exact ⟨j + 1, q, x, by rw [show i + (j + 1) = i + 1 + j by omega], hx, hq⟩
end
theorem matching_eq {doc : El} (hb : Bd doc) (hd : doc.dep ≤ 7) {ss : List Sel} (hs : ∀ s ∈ ss, s.fine) : F_matching [.dat (eD doc), .dat (.tuple (ss.map sD))] = .ok (.list (((places doc).filter fun p => ss.any fun s => mt doc s p).map plD)) [.dat (eD doc), .dat (.tuple (ss.map sD))] := by
  have q := lc_filter (vs := [2]) (t := tName 2) (test := t_matching_1) (elt := mVar 2) (s := [.dat (eD doc), .dat (.tuple (ss.map sD)), .un]) plD plD (fun p => ss.any fun s => mt doc s p) (xs := places doc) fun p h => ⟨[.dat (eD doc), .dat (.tuple (ss.map sD)), .dat (plD p)], rfl, by
    unfold t_matching_1
    simp only [mVar, mC, mMap, mMap2, lift_some, lift_none, bind_ok, bind_err, bind_bad, mCons, mNil, mT, asB_bool, asB, mAnd, mOr, mNot, andV_eq, orV_eq, mNotV, mIf, chain_eq, chK_b, mCall, sSeq, sNext, sIf, sRet, sRetN, sDrop, sAsg, sRaise, sFor, sApp, sOwn, setO, ownAt, mOwn1, mPop0, sFrz, frz, sAug, ex_ok, ex_err, ex_bad, then_nx, then_ret, then_brk, then_ct, then_err, optG_some, optG_none, tName, setD, tTupG, tsCons, tsNil, Option.bind_some, List.getElem?_cons_zero, List.getElem?_cons_succ, List.set_cons_zero, List.set_cons_succ, List.length_cons, List.length_nil, Bool.not_true, Bool.not_false, Bool.false_eq_true, if_true, if_false, reduceIte, List.map_cons, List.map_nil, List.cons_append, List.nil_append, List.replicate, Nat.reduceSub, Nat.reduceAdd, Nat.reduceEqDiff, Option.map_some, Option.map_none, outs, Int.reduceAdd, Int.reduceSub, Int.reduceBEq, Int.reduceLT, Int.reduceLE, decide_true, decide_false, beq_self_eq_true, cast_0, cast_1, cast_2, cast_3, cast_4, cast_5, isi_str, isi_tup, addD_i, addI_i, subD_i, leD_i, leD_s, ltD_i, ltD_s, gtD_i, geD_i, eqD_i, neD_i, eqD_b, neD_b, eqD_s, lenD_l, lenD_t, absD_i, intD_i, tupD_l, tupD_t, lstD_l, lstD_t, mkT_0, mkT_1, mkT_2, mkT_3, mkL_0, mkL_1, sized_0, sized_1, ix_0, ix_1, ix_2, isT_t, isT_s, isT_l, isT_i, isT_n, isS_s, isS_t, isS_l, isS_i, isS_n, neD_s, Kd.inj, Mk.inj, Lk.inj, s_km, s_mk, List.length_append, L_c, L_i, L_n, L_a, L_cc, L_ic, L_ii, L_nc, L_ni, L_nn, L_ac, L_ai, L_an, L_aa, matches_any_eq hb hs (places_ok doc p h)], fun _ => rfl, rfl⟩
  have hp := places_eq 7 doc hd (by decide) (by have := hb.2; omega)
  have hc : items (.list ((places doc).map plD)) = some ((places doc).map plD) := rfl
  have hz : (((places doc).filter fun p => ss.any fun s => mt doc s p).map plD).length ≤ sizeLine := small_line (by
    rw [List.length_map]
    have := List.length_filter_le (fun p => ss.any fun s => mt doc s p) (places doc)
    rw [places_len] at this
    have := hb.2
    omega)
  have w2 : ∀ x y z : Sl, wipeS [x, y, z] [2] = [x, y, .un] := fun _ _ _ => rfl
  have n2 : ∀ x y : Sl, noOwn [2] [x, y, .un] = true := fun _ _ => rfl
  refine run_x (s := ?_) (st := [.dat (eD doc), .dat (.tuple (ss.map sD)), .un]) ?_ ?_
  rotate_left
  · unfold g_matching
    simp only [mVar, mC, mMap, mMap2, lift_some, lift_none, bind_ok, bind_err, bind_bad, mCons, mNil, mT, asB_bool, asB, mAnd, mOr, mNot, andV_eq, orV_eq, mNotV, mIf, chain_eq, chK_b, mCall, sSeq, sNext, sIf, sRet, sRetN, sDrop, sAsg, sRaise, sFor, sApp, sOwn, setO, ownAt, mOwn1, mPop0, sFrz, frz, sAug, ex_ok, ex_err, ex_bad, then_nx, then_ret, then_brk, then_ct, then_err, optG_some, optG_none, tName, setD, tTupG, tsCons, tsNil, Option.bind_some, List.getElem?_cons_zero, List.getElem?_cons_succ, List.set_cons_zero, List.set_cons_succ, List.length_cons, List.length_nil, Bool.not_true, Bool.not_false, Bool.false_eq_true, if_true, if_false, reduceIte, List.map_cons, List.map_nil, List.cons_append, List.nil_append, List.replicate, Nat.reduceSub, Nat.reduceAdd, Nat.reduceEqDiff, Option.map_some, Option.map_none, outs, Int.reduceAdd, Int.reduceSub, Int.reduceBEq, Int.reduceLT, Int.reduceLE, decide_true, decide_false, beq_self_eq_true, cast_0, cast_1, cast_2, cast_3, cast_4, cast_5, isi_str, isi_tup, addD_i, addI_i, subD_i, leD_i, leD_s, ltD_i, ltD_s, gtD_i, geD_i, eqD_i, neD_i, eqD_b, neD_b, eqD_s, lenD_l, lenD_t, absD_i, intD_i, tupD_l, tupD_t, lstD_l, lstD_t, mkT_0, mkT_1, mkT_2, mkT_3, mkL_0, mkL_1, sized_0, sized_1, ix_0, ix_1, ix_2, isT_t, isT_s, isT_l, isT_i, isT_n, isS_s, isS_t, isS_l, isS_i, isS_n, neD_s, Kd.inj, Mk.inj, Lk.inj, s_km, s_mk, List.length_append, L_c, L_i, L_n, L_a, L_cc, L_ic, L_ii, L_nc, L_ni, L_nn, L_ac, L_ai, L_an, L_aa, mL, mLc, hp, hc, w2, n2, q, hz]
    rfl
  · rfl
theorem matches_none {doc : El} {s : Sel} {p : List Nat} (hp : doc.at p = none) : F_matches [.dat (eD doc), .dat (plD p), .dat (sD s)] = .err "BadPlace" [.dat (eD doc), .dat (plD p), .dat (sD s)] := by
  have q1 := element_at_none hp
  have q : F_matches_parts 5 [.dat (eD doc), .dat (plD p), .dat (.tuple (s.ps.map pD)), .dat (.tuple (s.ls.map lD))] = .err "BadPlace" [.dat (eD doc), .dat (plD p), .dat (.tuple (s.ps.map pD)), .dat (.tuple (s.ls.map lD))] := by
    refine run_xe (s := ?_) (st := [.dat (eD doc), .dat (plD p), .dat (.tuple (s.ps.map pD)), .dat (.tuple (s.ls.map lD)), .un, .un]) ?_ ?_
    rotate_left
    · unfold g_matches_parts
      simp only [mVar, mC, mMap, mMap2, lift_some, lift_none, bind_ok, bind_err, bind_bad, mCons, mNil, mT, asB_bool, asB, mAnd, mOr, mNot, andV_eq, orV_eq, mNotV, mIf, chain_eq, chK_b, mCall, sSeq, sNext, sIf, sRet, sRetN, sDrop, sAsg, sRaise, sFor, sApp, sOwn, setO, ownAt, mOwn1, mPop0, sFrz, frz, sAug, ex_ok, ex_err, ex_bad, then_nx, then_ret, then_brk, then_ct, then_err, optG_some, optG_none, tName, setD, tTupG, tsCons, tsNil, Option.bind_some, List.getElem?_cons_zero, List.getElem?_cons_succ, List.set_cons_zero, List.set_cons_succ, List.length_cons, List.length_nil, Bool.not_true, Bool.not_false, Bool.false_eq_true, if_true, if_false, reduceIte, List.map_cons, List.map_nil, List.cons_append, List.nil_append, List.replicate, Nat.reduceSub, Nat.reduceAdd, Nat.reduceEqDiff, Option.map_some, Option.map_none, outs, Int.reduceAdd, Int.reduceSub, Int.reduceBEq, Int.reduceLT, Int.reduceLE, decide_true, decide_false, beq_self_eq_true, cast_0, cast_1, cast_2, cast_3, cast_4, cast_5, isi_str, isi_tup, addD_i, addI_i, subD_i, leD_i, leD_s, ltD_i, ltD_s, gtD_i, geD_i, eqD_i, neD_i, eqD_b, neD_b, eqD_s, lenD_l, lenD_t, absD_i, intD_i, tupD_l, tupD_t, lstD_l, lstD_t, mkT_0, mkT_1, mkT_2, mkT_3, mkL_0, mkL_1, sized_0, sized_1, ix_0, ix_1, ix_2, isT_t, isT_s, isT_l, isT_i, isT_n, isS_s, isS_t, isS_l, isS_i, isS_n, neD_s, Kd.inj, Mk.inj, Lk.inj, s_km, s_mk, List.length_append, L_c, L_i, L_n, L_a, L_cc, L_ic, L_ii, L_nc, L_ni, L_nn, L_ac, L_ai, L_an, L_aa, q1]
      rfl
    · rfl
  refine run_xe (s := ?_) (st := [.dat (eD doc), .dat (plD p), .dat (sD s)]) ?_ ?_
  rotate_left
  · unfold g_matches
    simp only [mVar, mC, mMap, mMap2, lift_some, lift_none, bind_ok, bind_err, bind_bad, mCons, mNil, mT, asB_bool, asB, mAnd, mOr, mNot, andV_eq, orV_eq, mNotV, mIf, chain_eq, chK_b, mCall, sSeq, sNext, sIf, sRet, sRetN, sDrop, sAsg, sRaise, sFor, sApp, sOwn, setO, ownAt, mOwn1, mPop0, sFrz, frz, sAug, ex_ok, ex_err, ex_bad, then_nx, then_ret, then_brk, then_ct, then_err, optG_some, optG_none, tName, setD, tTupG, tsCons, tsNil, Option.bind_some, List.getElem?_cons_zero, List.getElem?_cons_succ, List.set_cons_zero, List.set_cons_succ, List.length_cons, List.length_nil, Bool.not_true, Bool.not_false, Bool.false_eq_true, if_true, if_false, reduceIte, List.map_cons, List.map_nil, List.cons_append, List.nil_append, List.replicate, Nat.reduceSub, Nat.reduceAdd, Nat.reduceEqDiff, Option.map_some, Option.map_none, outs, Int.reduceAdd, Int.reduceSub, Int.reduceBEq, Int.reduceLT, Int.reduceLE, decide_true, decide_false, beq_self_eq_true, cast_0, cast_1, cast_2, cast_3, cast_4, cast_5, isi_str, isi_tup, addD_i, addI_i, subD_i, leD_i, leD_s, ltD_i, ltD_s, gtD_i, geD_i, eqD_i, neD_i, eqD_b, neD_b, eqD_s, lenD_l, lenD_t, absD_i, intD_i, tupD_l, tupD_t, lstD_l, lstD_t, mkT_0, mkT_1, mkT_2, mkT_3, mkL_0, mkL_1, sized_0, sized_1, ix_0, ix_1, ix_2, isT_t, isT_s, isT_l, isT_i, isT_n, isS_s, isS_t, isS_l, isS_i, isS_n, neD_s, Kd.inj, Mk.inj, Lk.inj, s_km, s_mk, List.length_append, L_c, L_i, L_n, L_a, L_cc, L_ic, L_ii, L_nc, L_ni, L_nn, L_ac, L_ai, L_an, L_aa, sD_0, sD_1, q]
    rfl
  · rfl
end DL

namespace DL
open PySem PySem.Spec L2
/-! ### the law's fits -/
theorem eqD_tk (t : Tst) (k : Kd) : eqD (tD t) (.tuple [.str "kind", kD k]) = some (.bool (match t with | .kind q => q == k | .mark _ => false)) := by
  cases t with
  | kind q => cases q <;> cases k <;> kernel_rfl
  | mark q => cases q <;> cases k <;> kernel_rfl
theorem tD_0 (t : Tst) : ixD (tD t) (.int 0) = some (match t with | .kind _ => .str "kind" | .mark _ => .str "mark") := by cases t <;> exact ix_0 _ _
theorem tD_1 (t : Tst) : ixD (tD t) (.int 1) = some (match t with | .kind q => kD q | .mark q => mD q) := by cases t <;> exact ix_1 _ _ _
theorem filter_pos {α : Type} (xs : List α) (b : α → Bool) : decide ((0 : Int) < ((xs.filter b).length : Int)) = xs.any b := by
  induction xs with
  | nil => rfl
  | cons x r ih =>
    rcases two (b x) with h | h
    · rw [List.filter_cons_of_pos h, List.any_cons, h, Bool.true_or, List.length_cons]
      exact decide_eq_true (by omega)
    · rw [List.filter_cons_of_neg (by rw [h]; exact Bool.false_ne_true), List.any_cons, h, Bool.false_or, ih]
theorem fitsN_any (s f n : Nat) : ((List.range (n + 1)).any fun j => s * j + f == n) = fitsN s f n := by
  unfold fitsN
  rw [Bool.eq_iff_iff, List.any_eq_true]
  by_cases hs : s = 0
  · rw [if_pos hs, beq_iff_eq]
    constructor
    · rintro ⟨j, _, h⟩
      rw [beq_iff_eq, hs, Nat.zero_mul] at h
      omega
    · intro h
      exact ⟨0, by rw [List.mem_range]; omega, by rw [beq_iff_eq, Nat.mul_zero]; omega⟩
  · rw [if_neg hs, Bool.and_eq_true, decide_eq_true_iff, beq_iff_eq]
    constructor
    · rintro ⟨j, _, h⟩
      rw [beq_iff_eq] at h
      refine ⟨by omega, ?_⟩
      rw [show n - f = s * j by omega, Nat.mul_mod_right]
    · rintro ⟨h1, h2⟩
      have hd := Nat.div_add_mod (n - f) s
      refine ⟨(n - f) / s, ?_, by rw [beq_iff_eq]; omega⟩
      rw [List.mem_range]
      have := Nat.div_le_self (n - f) s
      omega
theorem in_nums (n : Nat) (js : List Nat) (g : Nat → Nat) : inD (nat n) (.list (js.map fun j => nat (g j))) = some (.bool (js.any fun j => g j == n)) := by
  have fl : (js.map fun j => nat (g j)).all flatD = true := by
    rw [List.all_map]
    exact List.all_eq_true.mpr fun _ _ => rfl
  show (if flatD (nat n) = true ∧ (js.map fun j => nat (g j)).all flatD = true then some (PyData.bool ((js.map fun j => nat (g j)).any fun z => PyData.eqv z (nat n))) else none) = _
  rw [if_pos ⟨rfl, fl⟩, List.any_map]
  congr 3
  funext j
  show PyData.eqv (.int (g j : Int)) (.int (n : Int)) = _
  simp only [PyData.eqv]
  rw [Bool.eq_iff_iff, beq_iff_eq, beq_iff_eq]
  omega
abbrev gS (p : Part) (e : El) (n : Nat) (r : Sts) : Sts := .dat (pD p) :: .dat (eD e) :: .dat (nat n) :: r
theorem kind_step2 (p : Part) (e : El) (n : Nat) (r : Sts) :
    sIf (mAnd (mT (mMap2 (mMap2 (mVar 0) (mC (.int 0)) ixD) (mC .none) notNone)) (mT (mMap2 (mMap2 (mVar 0) (mC (.int 0)) ixD) (mMap2 (mVar 1) (mC (.int 0)) ixD) neD))) (sRet (mC (.bool false))) sNext (gS p e n r) = if kOk p.k e.k = true then .nx (gS p e n r) else .ret (.bool false) (gS p e n r) := by
  have q := pD_0 p
  cases hk : p.k with
  | none =>
    rw [hk] at q
    have n0 : notNone (okD none) .none = some (.bool false) := rfl
    simp only [mVar, mC, mMap, mMap2, lift_some, lift_none, bind_ok, bind_err, bind_bad, mCons, mNil, mT, asB_bool, asB, mAnd, mOr, mNot, andV_eq, orV_eq, mNotV, mIf, chain_eq, chK_b, mCall, sSeq, sNext, sIf, sRet, sRetN, sDrop, sAsg, sRaise, sFor, sApp, sOwn, setO, ownAt, mOwn1, mPop0, sFrz, frz, sAug, ex_ok, ex_err, ex_bad, then_nx, then_ret, then_brk, then_ct, then_err, optG_some, optG_none, tName, setD, tTupG, tsCons, tsNil, Option.bind_some, List.getElem?_cons_zero, List.getElem?_cons_succ, List.set_cons_zero, List.set_cons_succ, List.length_cons, List.length_nil, Bool.not_true, Bool.not_false, Bool.false_eq_true, if_true, if_false, reduceIte, List.map_cons, List.map_nil, List.cons_append, List.nil_append, List.replicate, Nat.reduceSub, Nat.reduceAdd, Nat.reduceEqDiff, Option.map_some, Option.map_none, outs, Int.reduceAdd, Int.reduceSub, Int.reduceBEq, Int.reduceLT, Int.reduceLE, decide_true, decide_false, beq_self_eq_true, cast_0, cast_1, cast_2, cast_3, cast_4, cast_5, isi_str, isi_tup, addD_i, addI_i, subD_i, leD_i, leD_s, ltD_i, ltD_s, gtD_i, geD_i, eqD_i, neD_i, eqD_b, neD_b, eqD_s, lenD_l, lenD_t, absD_i, intD_i, tupD_l, tupD_t, lstD_l, lstD_t, mkT_0, mkT_1, mkT_2, mkT_3, mkL_0, mkL_1, sized_0, sized_1, ix_0, ix_1, ix_2, isT_t, isT_s, isT_l, isT_i, isT_n, isS_s, isS_t, isS_l, isS_i, isS_n, neD_s, Kd.inj, Mk.inj, Lk.inj, s_km, s_mk, List.length_append, L_c, L_i, L_n, L_a, L_cc, L_ic, L_ii, L_nc, L_ni, L_nn, L_ac, L_ai, L_an, L_aa, q, n0, kOk]
  | some q' =>
    rw [hk] at q
    have n0 : notNone (okD (some q')) .none = some (.bool true) := rfl
    have n1 : neD (okD (some q')) (kD e.k) = some (.bool (!(q' == e.k))) := neD_k q' e.k
    have sy : (e.k == q') = (q' == e.k) := by cases e.k <;> cases q' <;> rfl
    rcases two (q' == e.k) with h | h <;> simp only [mVar, mC, mMap, mMap2, lift_some, lift_none, bind_ok, bind_err, bind_bad, mCons, mNil, mT, asB_bool, asB, mAnd, mOr, mNot, andV_eq, orV_eq, mNotV, mIf, chain_eq, chK_b, mCall, sSeq, sNext, sIf, sRet, sRetN, sDrop, sAsg, sRaise, sFor, sApp, sOwn, setO, ownAt, mOwn1, mPop0, sFrz, frz, sAug, ex_ok, ex_err, ex_bad, then_nx, then_ret, then_brk, then_ct, then_err, optG_some, optG_none, tName, setD, tTupG, tsCons, tsNil, Option.bind_some, List.getElem?_cons_zero, List.getElem?_cons_succ, List.set_cons_zero, List.set_cons_succ, List.length_cons, List.length_nil, Bool.not_true, Bool.not_false, Bool.false_eq_true, if_true, if_false, reduceIte, List.map_cons, List.map_nil, List.cons_append, List.nil_append, List.replicate, Nat.reduceSub, Nat.reduceAdd, Nat.reduceEqDiff, Option.map_some, Option.map_none, outs, Int.reduceAdd, Int.reduceSub, Int.reduceBEq, Int.reduceLT, Int.reduceLE, decide_true, decide_false, beq_self_eq_true, cast_0, cast_1, cast_2, cast_3, cast_4, cast_5, isi_str, isi_tup, addD_i, addI_i, subD_i, leD_i, leD_s, ltD_i, ltD_s, gtD_i, geD_i, eqD_i, neD_i, eqD_b, neD_b, eqD_s, lenD_l, lenD_t, absD_i, intD_i, tupD_l, tupD_t, lstD_l, lstD_t, mkT_0, mkT_1, mkT_2, mkT_3, mkL_0, mkL_1, sized_0, sized_1, ix_0, ix_1, ix_2, isT_t, isT_s, isT_l, isT_i, isT_n, isS_s, isS_t, isS_l, isS_i, isS_n, neD_s, Kd.inj, Mk.inj, Lk.inj, s_km, s_mk, List.length_append, L_c, L_i, L_n, L_a, L_cc, L_ic, L_ii, L_nc, L_ni, L_nn, L_ac, L_ai, L_an, L_aa, q, n0, n1, eD_0, kOk, sy, h]
theorem law_fits_eq (p : Part) (e : El) (n : Nat) (hn : n ≤ 10000) (hp : p.m.length ≤ 1000) : F_law_fits [.dat (pD p), .dat (eD e), .dat (nat n)] = .ok (.bool (fits p e.k e.m n)) [.dat (pD p), .dat (eD e), .dat (nat n)] := by
  have l1 := fun (b c : Sl) => lc_filter (vs := [3]) (t := tName 3) (test := t_law_fits_1) (elt := mVar 3) (s := gS p e n [.un, b, c]) mD mD (fun m => !e.m.contains m) (xs := p.m) fun m _ => ⟨gS p e n [.dat (mD m), b, c], rfl, by
    unfold t_law_fits_1
    simp only [mVar, mC, mMap, mMap2, lift_some, lift_none, bind_ok, bind_err, bind_bad, mCons, mNil, mT, asB_bool, asB, mAnd, mOr, mNot, andV_eq, orV_eq, mNotV, mIf, chain_eq, chK_b, mCall, sSeq, sNext, sIf, sRet, sRetN, sDrop, sAsg, sRaise, sFor, sApp, sOwn, setO, ownAt, mOwn1, mPop0, sFrz, frz, sAug, ex_ok, ex_err, ex_bad, then_nx, then_ret, then_brk, then_ct, then_err, optG_some, optG_none, tName, setD, tTupG, tsCons, tsNil, Option.bind_some, List.getElem?_cons_zero, List.getElem?_cons_succ, List.set_cons_zero, List.set_cons_succ, List.length_cons, List.length_nil, Bool.not_true, Bool.not_false, Bool.false_eq_true, if_true, if_false, reduceIte, List.map_cons, List.map_nil, List.cons_append, List.nil_append, List.replicate, Nat.reduceSub, Nat.reduceAdd, Nat.reduceEqDiff, Option.map_some, Option.map_none, outs, Int.reduceAdd, Int.reduceSub, Int.reduceBEq, Int.reduceLT, Int.reduceLE, decide_true, decide_false, beq_self_eq_true, cast_0, cast_1, cast_2, cast_3, cast_4, cast_5, isi_str, isi_tup, addD_i, addI_i, subD_i, leD_i, leD_s, ltD_i, ltD_s, gtD_i, geD_i, eqD_i, neD_i, eqD_b, neD_b, eqD_s, lenD_l, lenD_t, absD_i, intD_i, tupD_l, tupD_t, lstD_l, lstD_t, mkT_0, mkT_1, mkT_2, mkT_3, mkL_0, mkL_1, sized_0, sized_1, ix_0, ix_1, ix_2, isT_t, isT_s, isT_l, isT_i, isT_n, isS_s, isS_t, isS_l, isS_i, isS_n, neD_s, Kd.inj, Mk.inj, Lk.inj, s_km, s_mk, List.length_append, L_c, L_i, L_n, L_a, L_cc, L_ic, L_ii, L_nc, L_ni, L_nn, L_ac, L_ai, L_an, L_aa, eD_1, notInD_m], fun _ => rfl, rfl⟩
  have l2 := for_ret_list (t := tName 4) (body := b_law_fits_2) tD (.bool false) (tst e.k e.m) (fun s => ∃ z, NO z ∧ s = gS p e n [.un, z, .un]) (fun s => ∃ r, s = gS p e n r)
    p.n (gS p e n [.un, .un, .un]) ⟨.un, no_un, rfl⟩ fun t _ s ⟨z, hz, hs⟩ => by
      subst hs
      refine ⟨_, set_no hz rfl, fun h => ⟨gS p e n [.un, .dat (tD t), .un], ?_, _, no_dat _, rfl⟩, fun h => ⟨gS p e n [.un, .dat (tD t), .un], ?_, _, rfl⟩⟩ <;>
      · unfold tst at h
        unfold b_law_fits_2
        cases t with
        | kind q => simp only [mVar, mC, mMap, mMap2, lift_some, lift_none, bind_ok, bind_err, bind_bad, mCons, mNil, mT, asB_bool, asB, mAnd, mOr, mNot, andV_eq, orV_eq, mNotV, mIf, chain_eq, chK_b, mCall, sSeq, sNext, sIf, sRet, sRetN, sDrop, sAsg, sRaise, sFor, sApp, sOwn, setO, ownAt, mOwn1, mPop0, sFrz, frz, sAug, ex_ok, ex_err, ex_bad, then_nx, then_ret, then_brk, then_ct, then_err, optG_some, optG_none, tName, setD, tTupG, tsCons, tsNil, Option.bind_some, List.getElem?_cons_zero, List.getElem?_cons_succ, List.set_cons_zero, List.set_cons_succ, List.length_cons, List.length_nil, Bool.not_true, Bool.not_false, Bool.false_eq_true, if_true, if_false, reduceIte, List.map_cons, List.map_nil, List.cons_append, List.nil_append, List.replicate, Nat.reduceSub, Nat.reduceAdd, Nat.reduceEqDiff, Option.map_some, Option.map_none, outs, Int.reduceAdd, Int.reduceSub, Int.reduceBEq, Int.reduceLT, Int.reduceLE, decide_true, decide_false, beq_self_eq_true, cast_0, cast_1, cast_2, cast_3, cast_4, cast_5, isi_str, isi_tup, addD_i, addI_i, subD_i, leD_i, leD_s, ltD_i, ltD_s, gtD_i, geD_i, eqD_i, neD_i, eqD_b, neD_b, eqD_s, lenD_l, lenD_t, absD_i, intD_i, tupD_l, tupD_t, lstD_l, lstD_t, mkT_0, mkT_1, mkT_2, mkT_3, mkL_0, mkL_1, sized_0, sized_1, ix_0, ix_1, ix_2, isT_t, isT_s, isT_l, isT_i, isT_n, isS_s, isS_t, isS_l, isS_i, isS_n, neD_s, Kd.inj, Mk.inj, Lk.inj, s_km, s_mk, List.length_append, L_c, L_i, L_n, L_a, L_cc, L_ic, L_ii, L_nc, L_ni, L_nn, L_ac, L_ai, L_an, L_aa, eqD_tk, eD_0, eD_1, tD_0, tD_1, h]
        | mark q => simp only [mVar, mC, mMap, mMap2, lift_some, lift_none, bind_ok, bind_err, bind_bad, mCons, mNil, mT, asB_bool, asB, mAnd, mOr, mNot, andV_eq, orV_eq, mNotV, mIf, chain_eq, chK_b, mCall, sSeq, sNext, sIf, sRet, sRetN, sDrop, sAsg, sRaise, sFor, sApp, sOwn, setO, ownAt, mOwn1, mPop0, sFrz, frz, sAug, ex_ok, ex_err, ex_bad, then_nx, then_ret, then_brk, then_ct, then_err, optG_some, optG_none, tName, setD, tTupG, tsCons, tsNil, Option.bind_some, List.getElem?_cons_zero, List.getElem?_cons_succ, List.set_cons_zero, List.set_cons_succ, List.length_cons, List.length_nil, Bool.not_true, Bool.not_false, Bool.false_eq_true, if_true, if_false, reduceIte, List.map_cons, List.map_nil, List.cons_append, List.nil_append, List.replicate, Nat.reduceSub, Nat.reduceAdd, Nat.reduceEqDiff, Option.map_some, Option.map_none, outs, Int.reduceAdd, Int.reduceSub, Int.reduceBEq, Int.reduceLT, Int.reduceLE, decide_true, decide_false, beq_self_eq_true, cast_0, cast_1, cast_2, cast_3, cast_4, cast_5, isi_str, isi_tup, addD_i, addI_i, subD_i, leD_i, leD_s, ltD_i, ltD_s, gtD_i, geD_i, eqD_i, neD_i, eqD_b, neD_b, eqD_s, lenD_l, lenD_t, absD_i, intD_i, tupD_l, tupD_t, lstD_l, lstD_t, mkT_0, mkT_1, mkT_2, mkT_3, mkL_0, mkL_1, sized_0, sized_1, ix_0, ix_1, ix_2, isT_t, isT_s, isT_l, isT_i, isT_n, isS_s, isS_t, isS_l, isS_i, isS_n, neD_s, Kd.inj, Mk.inj, Lk.inj, s_km, s_mk, List.length_append, L_c, L_i, L_n, L_a, L_cc, L_ic, L_ii, L_nc, L_ni, L_nn, L_ac, L_ai, L_an, L_aa, eqD_tk, eD_0, eD_1, tD_0, tD_1, inD_m, h]
  have l3 := fun (a b : Sl) => lc_typed (vs := [5]) (t := tName 5) (elt := e_law_fits_3) (s := gS p e n [a, b, .un]) nat (fun j => nat (p.s * j + p.f)) (xs := List.range (n + 1)) fun j hj => ⟨gS p e n [a, b, .dat (nat j)], rfl, by
    have := List.mem_range.mp hj
    unfold e_law_fits_3
    have m : mulD (nat p.s) (nat j) = some (nat (p.s * j)) := by
      rw [mulD_k (by omega)]
      rfl
    have a : addD (nat (p.s * j)) (nat p.f) = some (nat (p.s * j + p.f)) := rfl
    simp only [mVar, mC, mMap, mMap2, lift_some, lift_none, bind_ok, bind_err, bind_bad, mCons, mNil, mT, asB_bool, asB, mAnd, mOr, mNot, andV_eq, orV_eq, mNotV, mIf, chain_eq, chK_b, mCall, sSeq, sNext, sIf, sRet, sRetN, sDrop, sAsg, sRaise, sFor, sApp, sOwn, setO, ownAt, mOwn1, mPop0, sFrz, frz, sAug, ex_ok, ex_err, ex_bad, then_nx, then_ret, then_brk, then_ct, then_err, optG_some, optG_none, tName, setD, tTupG, tsCons, tsNil, Option.bind_some, List.getElem?_cons_zero, List.getElem?_cons_succ, List.set_cons_zero, List.set_cons_succ, List.length_cons, List.length_nil, Bool.not_true, Bool.not_false, Bool.false_eq_true, if_true, if_false, reduceIte, List.map_cons, List.map_nil, List.cons_append, List.nil_append, List.replicate, Nat.reduceSub, Nat.reduceAdd, Nat.reduceEqDiff, Option.map_some, Option.map_none, outs, Int.reduceAdd, Int.reduceSub, Int.reduceBEq, Int.reduceLT, Int.reduceLE, decide_true, decide_false, beq_self_eq_true, cast_0, cast_1, cast_2, cast_3, cast_4, cast_5, isi_str, isi_tup, addD_i, addI_i, subD_i, leD_i, leD_s, ltD_i, ltD_s, gtD_i, geD_i, eqD_i, neD_i, eqD_b, neD_b, eqD_s, lenD_l, lenD_t, absD_i, intD_i, tupD_l, tupD_t, lstD_l, lstD_t, mkT_0, mkT_1, mkT_2, mkT_3, mkL_0, mkL_1, sized_0, sized_1, ix_0, ix_1, ix_2, isT_t, isT_s, isT_l, isT_i, isT_n, isS_s, isS_t, isS_l, isS_i, isS_n, neD_s, Kd.inj, Mk.inj, Lk.inj, s_km, s_mk, List.length_append, L_c, L_i, L_n, L_a, L_cc, L_ic, L_ii, L_nc, L_ni, L_nn, L_ac, L_ai, L_an, L_aa, pD_3, pD_4, m]
    rfl, rfl⟩
  have i1 : items (msD p.m) = some (p.m.map mD) := rfl
  have i2 : items (.tuple (p.n.map tD)) = some (p.n.map tD) := rfl
  have w3 : ∀ x y z u v w : Sl, wipeS [x, y, z, u, v, w] [3] = [x, y, z, .un, v, w] := fun _ _ _ _ _ _ => rfl
  have n3 : ∀ x y z v w : Sl, noOwn [3] [x, y, z, .un, v, w] = true := fun _ _ _ _ _ => rfl
  have u3 : ∀ x y z v w a b c e f : Sl, putS [x, y, z, .un, v, w] [a, b, c, .un, e, f] [3] = [a, b, c, .un, e, f] := fun _ _ _ _ _ _ _ _ _ _ => rfl
  have w5 : ∀ x y z u v w : Sl, wipeS [x, y, z, u, v, w] [5] = [x, y, z, u, v, .un] := fun _ _ _ _ _ _ => rfl
  have n5 : ∀ x y z u v : Sl, noOwn [5] [x, y, z, u, v, .un] = true := fun _ _ _ _ _ => rfl
  have u5 : ∀ x y z u v a b c d e : Sl, putS [x, y, z, u, v, .un] [a, b, c, d, e, .un] [5] = [a, b, c, d, e, .un] := fun _ _ _ _ _ _ _ _ _ _ => rfl
  have main : ∃ r, g_law_fits (gS p e n [.un, .un, .un]) = .ret (.bool (fits p e.k e.m n)) (gS p e n r) := by
    unfold g_law_fits fits
    refine Exists.imp (fun r h => (seq_ifr (kind_step2 p e n [.un, .un, .un])).trans h) ?_
    rcases two (kOk p.k e.k) with hk | hk
    · rw [if_pos hk, hk]
      have z3 : (p.m.filter fun m => !e.m.contains m).length ≤ sizeLine := small_line (by
        have := List.length_filter_le (fun m => !e.m.contains m) p.m
        omega)
      have z5 : ((List.range (n + 1)).map fun j => nat (p.s * j + p.f)).length ≤ sizeLine := small_line (by rw [List.length_map, List.length_range]; omega)
      have hr : rng1 [.int ((n : Int) + 1)] = some ((List.range (n + 1)).map nat) := by
        rw [show (n : Int) + 1 = ((n + 1 : Nat) : Int) by omega]
        exact rng_nat (by omega)
      have fp := filter_pos p.m fun m => !e.m.contains m
      have step : sIf (mT (mMap2 (mMap (mCons (mL (mLc [3] (mMap (mMap2 (mVar 0) (mC (.int 1)) ixD) items) (tName 3) t_law_fits_1 (mVar 3))) mNil) lenD) (mC (.int 0)) gtD)) (sRet (mC (.bool false))) sNext (gS p e n [.un, .un, .un]) = if (p.m.any fun m => !e.m.contains m) = true then .ret (.bool false) (gS p e n [.un, .un, .un]) else .nx (gS p e n [.un, .un, .un]) := by
        rcases two (p.m.any fun m => !e.m.contains m) with hm | hm <;>
        · rw [hm] at fp
          simp only [mVar, mC, mMap, mMap2, lift_some, lift_none, bind_ok, bind_err, bind_bad, mCons, mNil, mT, asB_bool, asB, mAnd, mOr, mNot, andV_eq, orV_eq, mNotV, mIf, chain_eq, chK_b, mCall, sSeq, sNext, sIf, sRet, sRetN, sDrop, sAsg, sRaise, sFor, sApp, sOwn, setO, ownAt, mOwn1, mPop0, sFrz, frz, sAug, ex_ok, ex_err, ex_bad, then_nx, then_ret, then_brk, then_ct, then_err, optG_some, optG_none, tName, setD, tTupG, tsCons, tsNil, Option.bind_some, List.getElem?_cons_zero, List.getElem?_cons_succ, List.set_cons_zero, List.set_cons_succ, List.length_cons, List.length_nil, Bool.not_true, Bool.not_false, Bool.false_eq_true, if_true, if_false, reduceIte, List.map_cons, List.map_nil, List.cons_append, List.nil_append, List.replicate, Nat.reduceSub, Nat.reduceAdd, Nat.reduceEqDiff, Option.map_some, Option.map_none, outs, Int.reduceAdd, Int.reduceSub, Int.reduceBEq, Int.reduceLT, Int.reduceLE, decide_true, decide_false, beq_self_eq_true, cast_0, cast_1, cast_2, cast_3, cast_4, cast_5, isi_str, isi_tup, addD_i, addI_i, subD_i, leD_i, leD_s, ltD_i, ltD_s, gtD_i, geD_i, eqD_i, neD_i, eqD_b, neD_b, eqD_s, lenD_l, lenD_t, absD_i, intD_i, tupD_l, tupD_t, lstD_l, lstD_t, mkT_0, mkT_1, mkT_2, mkT_3, mkL_0, mkL_1, sized_0, sized_1, ix_0, ix_1, ix_2, isT_t, isT_s, isT_l, isT_i, isT_n, isS_s, isS_t, isS_l, isS_i, isS_n, neD_s, Kd.inj, Mk.inj, Lk.inj, s_km, s_mk, List.length_append, L_c, L_i, L_n, L_a, L_cc, L_ic, L_ii, L_nc, L_ni, L_nn, L_ac, L_ai, L_an, L_aa, mL, mLc, pD_1, i1, w3, n3, l1, z3, u3, List.length_map, fp, hm]
      rcases two (p.m.any fun m => !e.m.contains m) with hm | hm
      · rw [hm, if_pos rfl] at step
        refine ⟨[.un, .un, .un], ?_⟩
        unfold sSeq
        rw [step, hm]
        rfl
      · rw [hm, if_neg Bool.false_ne_true] at step
        rcases seq_for (s := gS p e n [.un, .un, .un]) (h := sRet (mMap2 (mVar 2) (mL (mLc [5] (mMap (mCons (mMap2 (mVar 2) (mC (.int 1)) addD) mNil) rng1) (tName 5) mYes e_law_fits_3)) inD)) (f := mMap (mMap2 (mVar 0) (mC (.int 2)) ixD) items) (by simp only [mVar, mC, mMap, mMap2, lift_some, lift_none, bind_ok, bind_err, bind_bad, mCons, mNil, mT, asB_bool, asB, mAnd, mOr, mNot, andV_eq, orV_eq, mNotV, mIf, chain_eq, chK_b, mCall, sSeq, sNext, sIf, sRet, sRetN, sDrop, sAsg, sRaise, sFor, sApp, sOwn, setO, ownAt, mOwn1, mPop0, sFrz, frz, sAug, ex_ok, ex_err, ex_bad, then_nx, then_ret, then_brk, then_ct, then_err, optG_some, optG_none, tName, setD, tTupG, tsCons, tsNil, Option.bind_some, List.getElem?_cons_zero, List.getElem?_cons_succ, List.set_cons_zero, List.set_cons_succ, List.length_cons, List.length_nil, Bool.not_true, Bool.not_false, Bool.false_eq_true, if_true, if_false, reduceIte, List.map_cons, List.map_nil, List.cons_append, List.nil_append, List.replicate, Nat.reduceSub, Nat.reduceAdd, Nat.reduceEqDiff, Option.map_some, Option.map_none, outs, Int.reduceAdd, Int.reduceSub, Int.reduceBEq, Int.reduceLT, Int.reduceLE, decide_true, decide_false, beq_self_eq_true, cast_0, cast_1, cast_2, cast_3, cast_4, cast_5, isi_str, isi_tup, addD_i, addI_i, subD_i, leD_i, leD_s, ltD_i, ltD_s, gtD_i, geD_i, eqD_i, neD_i, eqD_b, neD_b, eqD_s, lenD_l, lenD_t, absD_i, intD_i, tupD_l, tupD_t, lstD_l, lstD_t, mkT_0, mkT_1, mkT_2, mkT_3, mkL_0, mkL_1, sized_0, sized_1, ix_0, ix_1, ix_2, isT_t, isT_s, isT_l, isT_i, isT_n, isS_s, isS_t, isS_l, isS_i, isS_n, neD_s, Kd.inj, Mk.inj, Lk.inj, s_km, s_mk, List.length_append, L_c, L_i, L_n, L_a, L_cc, L_ic, L_ii, L_nc, L_ni, L_nn, L_ac, L_ai, L_an, L_aa, pD_2, i2]) l2 with ⟨ht, s', e1, r, rfl⟩ | ⟨ht, s', e1, z, hz, rfl⟩
        · refine ⟨r, (seq_nx step).trans ?_⟩
          rw [e1, hm, ht]
          rfl
        · refine ⟨[.un, z, .un], (seq_nx step).trans ?_⟩
          rw [e1, hm, ht]
          simp only [mVar, mC, mMap, mMap2, lift_some, lift_none, bind_ok, bind_err, bind_bad, mCons, mNil, mT, asB_bool, asB, mAnd, mOr, mNot, andV_eq, orV_eq, mNotV, mIf, chain_eq, chK_b, mCall, sSeq, sNext, sIf, sRet, sRetN, sDrop, sAsg, sRaise, sFor, sApp, sOwn, setO, ownAt, mOwn1, mPop0, sFrz, frz, sAug, ex_ok, ex_err, ex_bad, then_nx, then_ret, then_brk, then_ct, then_err, optG_some, optG_none, tName, setD, tTupG, tsCons, tsNil, Option.bind_some, List.getElem?_cons_zero, List.getElem?_cons_succ, List.set_cons_zero, List.set_cons_succ, List.length_cons, List.length_nil, Bool.not_true, Bool.not_false, Bool.false_eq_true, if_true, if_false, reduceIte, List.map_cons, List.map_nil, List.cons_append, List.nil_append, List.replicate, Nat.reduceSub, Nat.reduceAdd, Nat.reduceEqDiff, Option.map_some, Option.map_none, outs, Int.reduceAdd, Int.reduceSub, Int.reduceBEq, Int.reduceLT, Int.reduceLE, decide_true, decide_false, beq_self_eq_true, cast_0, cast_1, cast_2, cast_3, cast_4, cast_5, isi_str, isi_tup, addD_i, addI_i, subD_i, leD_i, leD_s, ltD_i, ltD_s, gtD_i, geD_i, eqD_i, neD_i, eqD_b, neD_b, eqD_s, lenD_l, lenD_t, absD_i, intD_i, tupD_l, tupD_t, lstD_l, lstD_t, mkT_0, mkT_1, mkT_2, mkT_3, mkL_0, mkL_1, sized_0, sized_1, ix_0, ix_1, ix_2, isT_t, isT_s, isT_l, isT_i, isT_n, isS_s, isS_t, isS_l, isS_i, isS_n, neD_s, Kd.inj, Mk.inj, Lk.inj, s_km, s_mk, List.length_append, L_c, L_i, L_n, L_a, L_cc, L_ic, L_ii, L_nc, L_ni, L_nn, L_ac, L_ai, L_an, L_aa, mL, mLc, hr, w5, n5, l3, z5, u5, in_nums, fitsN_any, Bool.true_and]
    · rw [hk]
      exact ⟨_, rfl⟩
  obtain ⟨r, main⟩ := main
  exact run_x (st := gS p e n [.un, .un, .un]) main rfl
end DL

namespace DL
open PySem PySem.Spec L2
/-! ### the law's reading from the root down -/
def rowD (r : List Bool) : D := .list (r.map .bool)
def parD (rs : List (List Bool)) : D := .list (rs.map rowD)
def near (l : Lk) (par eld : List (List Bool)) : List (List Bool) := match l with
  | .child => par.take 1
  | .inside => par
  | .next => eld.take 1
  | .after => eld
def linkd (s : Sel) (par eld : List (List Bool)) : Nat → Bool
  | 0 => true
  | j + 1 => match s.ls[j]? with
    | none => false
    | some l => (near l par eld).any fun r => r.getD j false
def cell (s : Sel) (e : El) (num : Nat) (par eld : List (List Bool)) (k : Nat) : Bool := match s.ps[k]? with
  | none => false
  | some q => linkd s par eld k && fits q e.k e.m num
def rowOf (s : Sel) (e : El) (num : Nat) (par eld : List (List Bool)) : List Bool := (List.range s.ps.length).map (cell s e num par eld)
theorem rowOf_len (s : Sel) (e : El) (num : Nat) (par eld : List (List Bool)) : (rowOf s e num par eld).length = s.ps.length := by unfold rowOf; rw [List.length_map, List.length_range]
mutual
def fnd (s : Sel) : El → Nat → List (List Bool) → List (List Bool) → List Bool
  | .mk k m c, num, par, eld => (rowOf s (.mk k m c) num par eld).getLastD false :: fndF s 0 c (rowOf s (.mk k m c) num par eld :: par) []
def fndF (s : Sel) : Nat → List El → List (List Bool) → List (List Bool) → List Bool
  | _, [], _, _ => []
  | i, e :: r, below, before => fnd s e (i + 1) below before ++ fndF s (i + 1) r below (rowOf s e (i + 1) below before :: before)
end
theorem fnd_eq (s : Sel) (e : El) (num : Nat) (par eld : List (List Bool)) : fnd s e num par eld = (rowOf s e num par eld).getLastD false :: fndF s 0 e.c (rowOf s e num par eld :: par) [] := by cases e; rfl
mutual
theorem fnd_len (s : Sel) : ∀ (e : El) (num : Nat) (par eld : List (List Bool)), (fnd s e num par eld).length = e.sz
  | .mk k m c, num, par, eld => by rw [fnd, El.sz, List.length_cons, fndF_len s 0 c]
theorem fndF_len (s : Sel) : ∀ (i : Nat) (c : List El) (below before : List (List Bool)), (fndF s i c below before).length = szs c
  | _, [], _, _ => rfl
  | i, e :: r, below, before => by rw [fndF, szs, List.length_append, fnd_len s e, fndF_len s (i + 1) r]
end
def RL (s : Sel) (rs : List (List Bool)) : Prop := ∀ r ∈ rs, r.length = s.ps.length
theorem row_ix {r : List Bool} {j : Nat} (h : j < r.length) : ixD (rowD r) (nat j) = some (.bool (r.getD j false)) := by
  refine ixl_nat ?_
  rw [List.getElem?_map, List.getElem?_eq_getElem h, List.getD_eq_getElem?_getD, List.getElem?_eq_getElem h]
  rfl
/-- the state while a row is made -/
abbrev hS (e : El) (num : Nat) (par eld : List (List Bool)) (s : Sel) (rw_ : Sl) (r : Sts) : Sts := .dat (eD e) :: .dat (nat num) :: .dat (parD par) :: .dat (parD eld) :: .dat (sD s) :: rw_ :: .dat (.tuple (s.ps.map pD)) :: .dat (.tuple (s.ls.map lD)) :: r
theorem near_lc {s : Sel} {nr : List (List Bool)} {j : Nat} (h : RL s nr) (hj : j < s.ps.length) {a0 a1 a2 a3 a4 a5 a6 a7 a8 a10 a11 a13 a14 : Sl} :
    lcG [12] (tName 12) t_law_found_1 (mVar 12) (nr.map rowD) [a0, a1, a2, a3, a4, a5, a6, a7, a8, .dat (nat (j + 1)), a10, a11, .un, a13, a14] = .ok ((nr.filter fun r => r.getD j false).map rowD) [a0, a1, a2, a3, a4, a5, a6, a7, a8, .dat (nat (j + 1)), a10, a11, .un, a13, a14] :=
  lc_filter rowD rowD (fun r => r.getD j false) fun r hr => ⟨[a0, a1, a2, a3, a4, a5, a6, a7, a8, .dat (nat (j + 1)), a10, a11, .dat (rowD r), a13, a14], rfl, by
    have e1 : ((j + 1 : Nat) : Int) - 1 = (j : Int) := by omega
    unfold t_law_found_1
    simp only [mVar, mC, mMap, mMap2, lift_some, lift_none, bind_ok, bind_err, bind_bad, mCons, mNil, mT, asB_bool, asB, mAnd, mOr, mNot, andV_eq, orV_eq, mNotV, mIf, chain_eq, chK_b, mCall, sSeq, sNext, sIf, sRet, sRetN, sDrop, sAsg, sRaise, sFor, sApp, sOwn, setO, ownAt, mOwn1, mPop0, sFrz, frz, sAug, ex_ok, ex_err, ex_bad, then_nx, then_ret, then_brk, then_ct, then_err, optG_some, optG_none, tName, setD, tTupG, tsCons, tsNil, Option.bind_some, List.getElem?_cons_zero, List.getElem?_cons_succ, List.set_cons_zero, List.set_cons_succ, List.length_cons, List.length_nil, Bool.not_true, Bool.not_false, Bool.false_eq_true, if_true, if_false, reduceIte, List.map_cons, List.map_nil, List.cons_append, List.nil_append, List.replicate, Nat.reduceSub, Nat.reduceAdd, Nat.reduceEqDiff, Option.map_some, Option.map_none, outs, Int.reduceAdd, Int.reduceSub, Int.reduceBEq, Int.reduceLT, Int.reduceLE, decide_true, decide_false, beq_self_eq_true, cast_0, cast_1, cast_2, cast_3, cast_4, cast_5, isi_str, isi_tup, addD_i, addI_i, subD_i, leD_i, leD_s, ltD_i, ltD_s, gtD_i, geD_i, eqD_i, neD_i, eqD_b, neD_b, eqD_s, lenD_l, lenD_t, absD_i, intD_i, tupD_l, tupD_t, lstD_l, lstD_t, mkT_0, mkT_1, mkT_2, mkT_3, mkL_0, mkL_1, sized_0, sized_1, ix_0, ix_1, ix_2, isT_t, isT_s, isT_l, isT_i, isT_n, isS_s, isS_t, isS_l, isS_i, isS_n, neD_s, Kd.inj, Mk.inj, Lk.inj, s_km, s_mk, List.length_append, L_c, L_i, L_n, L_a, L_cc, L_ic, L_ii, L_nc, L_ni, L_nn, L_ac, L_ai, L_an, L_aa, e1, row_ix (show j < r.length by rw [h r hr]; exact hj)], fun _ => rfl, rfl⟩
theorem cell_0 {e : El} {num : Nat} {par eld : List (List Bool)} {s : Sel} {rw_ : Sl} {acc : List D} {z10 z11 : Sl} (hn : num ≤ 10000) (hp : ∀ q ∈ s.ps, q.m.length ≤ 1000) (hl : 0 < s.ps.length) (ha : acc.length ≤ 1000) (h10 : NO z10) (h11 : NO z11) :
    ∃ y10 y11, NO y10 ∧ NO y11 ∧ b_law_found_2 (hS e num par eld s rw_ [.own acc, .dat (nat 0), z10, z11, .un, .un, .un]) = .nx (hS e num par eld s rw_ [.own (acc ++ [.bool (cell s e num par eld 0)]), .dat (nat 0), y10, y11, .un, .un, .un]) := by
  have hx : s.ps[0]? = some s.ps[0] := List.getElem?_eq_getElem hl
  have hx' : ixD (.tuple (s.ps.map pD)) (nat 0) = some (pD s.ps[0]) := ixD_t (k := 0) (by rw [List.getElem?_map, hx]; rfl)
  have lf := law_fits_eq s.ps[0] e num hn (hp _ (List.getElem_mem hl))
  have hc : cell s e num par eld 0 = fits s.ps[0] e.k e.m num := by unfold cell linkd; rw [hx]; rfl
  have hsz : acc.length < sizeLine := Nat.lt_of_lt_of_le (by omega : acc.length < 100000) (small_line (Nat.le_refl _))
  have t10 : ∀ d, tName 10 d (hS e num par eld s rw_ [.own acc, .dat (nat 0), z10, z11, .un, .un, .un]) = some (hS e num par eld s rw_ [.own acc, .dat (nat 0), .dat d, z11, .un, .un, .un]) := fun d => set_no h10 rfl
  have t11 : ∀ c d, tName 11 d (hS e num par eld s rw_ [.own acc, .dat (nat 0), c, z11, .un, .un, .un]) = some (hS e num par eld s rw_ [.own acc, .dat (nat 0), c, .dat d, .un, .un, .un]) := fun c d => set_no h11 rfl
  refine ⟨.dat (.list []), .dat (.bool true), no_dat _, no_dat _, ?_⟩
  unfold b_law_found_2
  refine (seq_nx (s1 := hS e num par eld s rw_ [.own acc, .dat (nat 0), .dat (.list []), z11, .un, .un, .un]) ?_).trans ?_
  · unfold sAsg
    rw [show mMap mNil mkL (hS e num par eld s rw_ [.own acc, .dat (nat 0), z10, z11, .un, .un, .un]) = .ok (.list []) (hS e num par eld s rw_ [.own acc, .dat (nat 0), z10, z11, .un, .un, .un]) from rfl]
    simp only [ex_ok, t10, optG_some]
  refine (seq_nx (s1 := hS e num par eld s rw_ [.own acc, .dat (nat 0), .dat (.list []), z11, .un, .un, .un]) ?_).trans ?_
  · simp only [mVar, mC, mMap, mMap2, lift_some, lift_none, bind_ok, bind_err, bind_bad, mCons, mNil, mT, asB_bool, asB, mAnd, mOr, mNot, andV_eq, orV_eq, mNotV, mIf, chain_eq, chK_b, mCall, sSeq, sNext, sIf, sRet, sRetN, sDrop, sAsg, sRaise, sFor, sApp, sOwn, setO, ownAt, mOwn1, mPop0, sFrz, frz, sAug, ex_ok, ex_err, ex_bad, then_nx, then_ret, then_brk, then_ct, then_err, optG_some, optG_none, tName, setD, tTupG, tsCons, tsNil, Option.bind_some, List.getElem?_cons_zero, List.getElem?_cons_succ, List.set_cons_zero, List.set_cons_succ, List.length_cons, List.length_nil, Bool.not_true, Bool.not_false, Bool.false_eq_true, if_true, if_false, reduceIte, List.map_cons, List.map_nil, List.cons_append, List.nil_append, List.replicate, Nat.reduceSub, Nat.reduceAdd, Nat.reduceEqDiff, Option.map_some, Option.map_none, outs, Int.reduceAdd, Int.reduceSub, Int.reduceBEq, Int.reduceLT, Int.reduceLE, decide_true, decide_false, beq_self_eq_true, cast_0, cast_1, cast_2, cast_3, cast_4, cast_5, isi_str, isi_tup, addD_i, addI_i, subD_i, leD_i, leD_s, ltD_i, ltD_s, gtD_i, geD_i, eqD_i, neD_i, eqD_b, neD_b, eqD_s, lenD_l, lenD_t, absD_i, intD_i, tupD_l, tupD_t, lstD_l, lstD_t, mkT_0, mkT_1, mkT_2, mkT_3, mkL_0, mkL_1, sized_0, sized_1, ix_0, ix_1, ix_2, isT_t, isT_s, isT_l, isT_i, isT_n, isS_s, isS_t, isS_l, isS_i, isS_n, neD_s, Kd.inj, Mk.inj, Lk.inj, s_km, s_mk, List.length_append, L_c, L_i, L_n, L_a, L_cc, L_ic, L_ii, L_nc, L_ni, L_nn, L_ac, L_ai, L_an, L_aa]
  refine (seq_nx (s1 := hS e num par eld s rw_ [.own acc, .dat (nat 0), .dat (.list []), z11, .un, .un, .un]) ?_).trans ?_
  · simp only [mVar, mC, mMap, mMap2, lift_some, lift_none, bind_ok, bind_err, bind_bad, mCons, mNil, mT, asB_bool, asB, mAnd, mOr, mNot, andV_eq, orV_eq, mNotV, mIf, chain_eq, chK_b, mCall, sSeq, sNext, sIf, sRet, sRetN, sDrop, sAsg, sRaise, sFor, sApp, sOwn, setO, ownAt, mOwn1, mPop0, sFrz, frz, sAug, ex_ok, ex_err, ex_bad, then_nx, then_ret, then_brk, then_ct, then_err, optG_some, optG_none, tName, setD, tTupG, tsCons, tsNil, Option.bind_some, List.getElem?_cons_zero, List.getElem?_cons_succ, List.set_cons_zero, List.set_cons_succ, List.length_cons, List.length_nil, Bool.not_true, Bool.not_false, Bool.false_eq_true, if_true, if_false, reduceIte, List.map_cons, List.map_nil, List.cons_append, List.nil_append, List.replicate, Nat.reduceSub, Nat.reduceAdd, Nat.reduceEqDiff, Option.map_some, Option.map_none, outs, Int.reduceAdd, Int.reduceSub, Int.reduceBEq, Int.reduceLT, Int.reduceLE, decide_true, decide_false, beq_self_eq_true, cast_0, cast_1, cast_2, cast_3, cast_4, cast_5, isi_str, isi_tup, addD_i, addI_i, subD_i, leD_i, leD_s, ltD_i, ltD_s, gtD_i, geD_i, eqD_i, neD_i, eqD_b, neD_b, eqD_s, lenD_l, lenD_t, absD_i, intD_i, tupD_l, tupD_t, lstD_l, lstD_t, mkT_0, mkT_1, mkT_2, mkT_3, mkL_0, mkL_1, sized_0, sized_1, ix_0, ix_1, ix_2, isT_t, isT_s, isT_l, isT_i, isT_n, isS_s, isS_t, isS_l, isS_i, isS_n, neD_s, Kd.inj, Mk.inj, Lk.inj, s_km, s_mk, List.length_append, L_c, L_i, L_n, L_a, L_cc, L_ic, L_ii, L_nc, L_ni, L_nn, L_ac, L_ai, L_an, L_aa]
  refine (seq_nx (s1 := hS e num par eld s rw_ [.own acc, .dat (nat 0), .dat (.list []), z11, .un, .un, .un]) ?_).trans ?_
  · simp only [mVar, mC, mMap, mMap2, lift_some, lift_none, bind_ok, bind_err, bind_bad, mCons, mNil, mT, asB_bool, asB, mAnd, mOr, mNot, andV_eq, orV_eq, mNotV, mIf, chain_eq, chK_b, mCall, sSeq, sNext, sIf, sRet, sRetN, sDrop, sAsg, sRaise, sFor, sApp, sOwn, setO, ownAt, mOwn1, mPop0, sFrz, frz, sAug, ex_ok, ex_err, ex_bad, then_nx, then_ret, then_brk, then_ct, then_err, optG_some, optG_none, tName, setD, tTupG, tsCons, tsNil, Option.bind_some, List.getElem?_cons_zero, List.getElem?_cons_succ, List.set_cons_zero, List.set_cons_succ, List.length_cons, List.length_nil, Bool.not_true, Bool.not_false, Bool.false_eq_true, if_true, if_false, reduceIte, List.map_cons, List.map_nil, List.cons_append, List.nil_append, List.replicate, Nat.reduceSub, Nat.reduceAdd, Nat.reduceEqDiff, Option.map_some, Option.map_none, outs, Int.reduceAdd, Int.reduceSub, Int.reduceBEq, Int.reduceLT, Int.reduceLE, decide_true, decide_false, beq_self_eq_true, cast_0, cast_1, cast_2, cast_3, cast_4, cast_5, isi_str, isi_tup, addD_i, addI_i, subD_i, leD_i, leD_s, ltD_i, ltD_s, gtD_i, geD_i, eqD_i, neD_i, eqD_b, neD_b, eqD_s, lenD_l, lenD_t, absD_i, intD_i, tupD_l, tupD_t, lstD_l, lstD_t, mkT_0, mkT_1, mkT_2, mkT_3, mkL_0, mkL_1, sized_0, sized_1, ix_0, ix_1, ix_2, isT_t, isT_s, isT_l, isT_i, isT_n, isS_s, isS_t, isS_l, isS_i, isS_n, neD_s, Kd.inj, Mk.inj, Lk.inj, s_km, s_mk, List.length_append, L_c, L_i, L_n, L_a, L_cc, L_ic, L_ii, L_nc, L_ni, L_nn, L_ac, L_ai, L_an, L_aa]
  refine (seq_nx (s1 := hS e num par eld s rw_ [.own acc, .dat (nat 0), .dat (.list []), z11, .un, .un, .un]) ?_).trans ?_
  · simp only [mVar, mC, mMap, mMap2, lift_some, lift_none, bind_ok, bind_err, bind_bad, mCons, mNil, mT, asB_bool, asB, mAnd, mOr, mNot, andV_eq, orV_eq, mNotV, mIf, chain_eq, chK_b, mCall, sSeq, sNext, sIf, sRet, sRetN, sDrop, sAsg, sRaise, sFor, sApp, sOwn, setO, ownAt, mOwn1, mPop0, sFrz, frz, sAug, ex_ok, ex_err, ex_bad, then_nx, then_ret, then_brk, then_ct, then_err, optG_some, optG_none, tName, setD, tTupG, tsCons, tsNil, Option.bind_some, List.getElem?_cons_zero, List.getElem?_cons_succ, List.set_cons_zero, List.set_cons_succ, List.length_cons, List.length_nil, Bool.not_true, Bool.not_false, Bool.false_eq_true, if_true, if_false, reduceIte, List.map_cons, List.map_nil, List.cons_append, List.nil_append, List.replicate, Nat.reduceSub, Nat.reduceAdd, Nat.reduceEqDiff, Option.map_some, Option.map_none, outs, Int.reduceAdd, Int.reduceSub, Int.reduceBEq, Int.reduceLT, Int.reduceLE, decide_true, decide_false, beq_self_eq_true, cast_0, cast_1, cast_2, cast_3, cast_4, cast_5, isi_str, isi_tup, addD_i, addI_i, subD_i, leD_i, leD_s, ltD_i, ltD_s, gtD_i, geD_i, eqD_i, neD_i, eqD_b, neD_b, eqD_s, lenD_l, lenD_t, absD_i, intD_i, tupD_l, tupD_t, lstD_l, lstD_t, mkT_0, mkT_1, mkT_2, mkT_3, mkL_0, mkL_1, sized_0, sized_1, ix_0, ix_1, ix_2, isT_t, isT_s, isT_l, isT_i, isT_n, isS_s, isS_t, isS_l, isS_i, isS_n, neD_s, Kd.inj, Mk.inj, Lk.inj, s_km, s_mk, List.length_append, L_c, L_i, L_n, L_a, L_cc, L_ic, L_ii, L_nc, L_ni, L_nn, L_ac, L_ai, L_an, L_aa]
  refine (seq_nx (s1 := hS e num par eld s rw_ [.own acc, .dat (nat 0), .dat (.list []), .dat (.bool true), .un, .un, .un]) ?_).trans ?_
  · unfold sAsg
    rw [show (mOrV (mMap2 (mVar 9) (mC (.int 0)) eqD) (mMap2 (mMap (mCons (mL (mLc [12] (mMap (mVar 10) items) (tName 12) t_law_found_1 (mVar 12))) mNil) lenD) (mC (.int 0)) gtD)) (hS e num par eld s rw_ [.own acc, .dat (nat 0), .dat (.list []), z11, .un, .un, .un]) = .ok (.bool true) (hS e num par eld s rw_ [.own acc, .dat (nat 0), .dat (.list []), z11, .un, .un, .un]) from by simp only [mVar, mC, mMap, mMap2, lift_some, lift_none, bind_ok, bind_err, bind_bad, mCons, mNil, mT, asB_bool, asB, mAnd, mOr, mNot, andV_eq, orV_eq, mNotV, mIf, chain_eq, chK_b, mCall, sSeq, sNext, sIf, sRet, sRetN, sDrop, sAsg, sRaise, sFor, sApp, sOwn, setO, ownAt, mOwn1, mPop0, sFrz, frz, sAug, ex_ok, ex_err, ex_bad, then_nx, then_ret, then_brk, then_ct, then_err, optG_some, optG_none, tName, setD, tTupG, tsCons, tsNil, Option.bind_some, List.getElem?_cons_zero, List.getElem?_cons_succ, List.set_cons_zero, List.set_cons_succ, List.length_cons, List.length_nil, Bool.not_true, Bool.not_false, Bool.false_eq_true, if_true, if_false, reduceIte, List.map_cons, List.map_nil, List.cons_append, List.nil_append, List.replicate, Nat.reduceSub, Nat.reduceAdd, Nat.reduceEqDiff, Option.map_some, Option.map_none, outs, Int.reduceAdd, Int.reduceSub, Int.reduceBEq, Int.reduceLT, Int.reduceLE, decide_true, decide_false, beq_self_eq_true, cast_0, cast_1, cast_2, cast_3, cast_4, cast_5, isi_str, isi_tup, addD_i, addI_i, subD_i, leD_i, leD_s, ltD_i, ltD_s, gtD_i, geD_i, eqD_i, neD_i, eqD_b, neD_b, eqD_s, lenD_l, lenD_t, absD_i, intD_i, tupD_l, tupD_t, lstD_l, lstD_t, mkT_0, mkT_1, mkT_2, mkT_3, mkL_0, mkL_1, sized_0, sized_1, ix_0, ix_1, ix_2, isT_t, isT_s, isT_l, isT_i, isT_n, isS_s, isS_t, isS_l, isS_i, isS_n, neD_s, Kd.inj, Mk.inj, Lk.inj, s_km, s_mk, List.length_append, L_c, L_i, L_n, L_a, L_cc, L_ic, L_ii, L_nc, L_ni, L_nn, L_ac, L_ai, L_an, L_aa]]
    simp only [ex_ok, t11, optG_some]
  rw [hc]
  simp only [mVar, mC, mMap, mMap2, lift_some, lift_none, bind_ok, bind_err, bind_bad, mCons, mNil, mT, asB_bool, asB, mAnd, mOr, mNot, andV_eq, orV_eq, mNotV, mIf, chain_eq, chK_b, mCall, sSeq, sNext, sIf, sRet, sRetN, sDrop, sAsg, sRaise, sFor, sApp, sOwn, setO, ownAt, mOwn1, mPop0, sFrz, frz, sAug, ex_ok, ex_err, ex_bad, then_nx, then_ret, then_brk, then_ct, then_err, optG_some, optG_none, tName, setD, tTupG, tsCons, tsNil, Option.bind_some, List.getElem?_cons_zero, List.getElem?_cons_succ, List.set_cons_zero, List.set_cons_succ, List.length_cons, List.length_nil, Bool.not_true, Bool.not_false, Bool.false_eq_true, if_true, if_false, reduceIte, List.map_cons, List.map_nil, List.cons_append, List.nil_append, List.replicate, Nat.reduceSub, Nat.reduceAdd, Nat.reduceEqDiff, Option.map_some, Option.map_none, outs, Int.reduceAdd, Int.reduceSub, Int.reduceBEq, Int.reduceLT, Int.reduceLE, decide_true, decide_false, beq_self_eq_true, cast_0, cast_1, cast_2, cast_3, cast_4, cast_5, isi_str, isi_tup, addD_i, addI_i, subD_i, leD_i, leD_s, ltD_i, ltD_s, gtD_i, geD_i, eqD_i, neD_i, eqD_b, neD_b, eqD_s, lenD_l, lenD_t, absD_i, intD_i, tupD_l, tupD_t, lstD_l, lstD_t, mkT_0, mkT_1, mkT_2, mkT_3, mkL_0, mkL_1, sized_0, sized_1, ix_0, ix_1, ix_2, isT_t, isT_s, isT_l, isT_i, isT_n, isS_s, isS_t, isS_l, isS_i, isS_n, neD_s, Kd.inj, Mk.inj, Lk.inj, s_km, s_mk, List.length_append, L_c, L_i, L_n, L_a, L_cc, L_ic, L_ii, L_nc, L_ni, L_nn, L_ac, L_ai, L_an, L_aa, hx', lf, hsz]
theorem near_par (l : Lk) (par eld : List (List Bool)) : parD (near l par eld) = match l with
    | .child => parD (par.take 1)
    | .inside => parD par
    | .next => parD (eld.take 1)
    | .after => parD eld := by cases l <;> rfl
theorem near_RL {s : Sel} {par eld : List (List Bool)} (h1 : RL s par) (h2 : RL s eld) (l : Lk) : RL s (near l par eld) := by
  cases l with
  | child => exact fun r hr => h1 r (List.mem_of_mem_take hr)
  | inside => exact h1
  | next => exact fun r hr => h2 r (List.mem_of_mem_take hr)
  | after => exact h2
theorem near_len {par eld : List (List Bool)} {n : Nat} (h1 : par.length ≤ n) (h2 : eld.length ≤ n) (l : Lk) : (near l par eld).length ≤ n := by
  cases l with
  | child => show (par.take 1).length ≤ n; rw [List.length_take]; omega
  | inside => exact h1
  | next => show (eld.take 1).length ≤ n; rw [List.length_take]; omega
  | after => exact h2
theorem par_take (par : List (List Bool)) : slD (parD par) none (some 1) = some (parD (par.take 1)) := by
  have := sll_to (par.map rowD) 1
  rw [← List.map_take] at this
  exact this
theorem cell_1 {e : El} {num : Nat} {par eld : List (List Bool)} {s : Sel} {rw_ : Sl} {acc : List D} {z10 z11 : Sl} {j : Nat} (hn : num ≤ 10000) (hp : ∀ q ∈ s.ps, q.m.length ≤ 1000) (hl : j + 1 < s.ps.length) (hll : s.ls.length + 1 = s.ps.length) (ha : acc.length ≤ 1000)
    (hR1 : RL s par) (hR2 : RL s eld) (hq1 : par.length ≤ 1000) (hq2 : eld.length ≤ 1000) (h10 : NO z10) (h11 : NO z11) :
    ∃ y10 y11, NO y10 ∧ NO y11 ∧ b_law_found_2 (hS e num par eld s rw_ [.own acc, .dat (nat (j + 1)), z10, z11, .un, .un, .un]) = .nx (hS e num par eld s rw_ [.own (acc ++ [.bool (cell s e num par eld (j + 1))]), .dat (nat (j + 1)), y10, y11, .un, .un, .un]) := by
  have hx : s.ps[j + 1]? = some s.ps[j + 1] := List.getElem?_eq_getElem hl
  have hx' : ixD (.tuple (s.ps.map pD)) (nat (j + 1)) = some (pD s.ps[j + 1]) := ix_nat (by rw [List.getElem?_map, hx]; rfl)
  have hj : j < s.ls.length := by omega
  have hy : s.ls[j]? = some s.ls[j] := List.getElem?_eq_getElem hj
  have hy' : ixD (.tuple (s.ls.map lD)) (nat j) = some (lD s.ls[j]) := ix_nat (by rw [List.getElem?_map, hy]; rfl)
  have lf := law_fits_eq s.ps[j + 1] e num hn (hp _ (List.getElem_mem hl))
  have hc : cell s e num par eld (j + 1) = ((near s.ls[j] par eld).any (fun r => r.getD j false) && fits s.ps[j + 1] e.k e.m num) := by
    have hk : linkd s par eld (j + 1) = (near s.ls[j] par eld).any fun r => r.getD j false := by rw [linkd, hy]
    unfold cell
    rw [hx, ← hk]
  have hsz : acc.length < sizeLine := Nat.lt_of_lt_of_le (by omega : acc.length < 100000) (small_line (Nat.le_refl _))
  have e1 : ((j + 1 : Nat) : Int) - 1 = (j : Int) := by omega
  have g0 : (0 : Int) < ((j + 1 : Nat) : Int) := by omega
  have n0 : (((j + 1 : Nat) : Int) == 0) = false := by rw [beq_eq_false_iff_ne]; omega
  generalize s.ls[j] = l at hy' hc
  have t10 : ∀ c d, NO c → tName 10 d (hS e num par eld s rw_ [.own acc, .dat (nat (j + 1)), c, z11, .un, .un, .un]) = some (hS e num par eld s rw_ [.own acc, .dat (nat (j + 1)), .dat d, z11, .un, .un, .un]) := fun c d h => set_no h rfl
  have t11 : ∀ c d, tName 11 d (hS e num par eld s rw_ [.own acc, .dat (nat (j + 1)), c, z11, .un, .un, .un]) = some (hS e num par eld s rw_ [.own acc, .dat (nat (j + 1)), c, .dat d, .un, .un, .un]) := fun c d => set_no h11 rfl
  have hz : ((near l par eld).filter fun r => r.getD j false).length ≤ sizeLine := small_line (by
    have := List.length_filter_le (fun r : List Bool => r.getD j false) (near l par eld)
    have := near_len hq1 hq2 l
    omega)
  have hi : items (parD (near l par eld)) = some ((near l par eld).map rowD) := rfl
  have fp := filter_pos (near l par eld) fun r => r.getD j false
  have w12 : ∀ a b c d e f g h i j k l m n o : Sl, wipeS [a, b, c, d, e, f, g, h, i, j, k, l, m, n, o] [12] = [a, b, c, d, e, f, g, h, i, j, k, l, .un, n, o] := fun _ _ _ _ _ _ _ _ _ _ _ _ _ _ _ => rfl
  have n12 : ∀ a b c d e f g h i j k l n o : Sl, noOwn [12] [a, b, c, d, e, f, g, h, i, j, k, l, .un, n, o] = true := fun _ _ _ _ _ _ _ _ _ _ _ _ _ _ => rfl
  have u12 : ∀ (a b c d e f g h i j k l n o : Sl) (a' b' c' d' e' f' g' h' i' j' k' l' n' o' : Sl), putS [a, b, c, d, e, f, g, h, i, j, k, l, .un, n, o] [a', b', c', d', e', f', g', h', i', j', k', l', .un, n', o'] [12] = [a', b', c', d', e', f', g', h', i', j', k', l', .un, n', o'] := fun _ _ _ _ _ _ _ _ _ _ _ _ _ _ _ _ _ _ _ _ _ _ _ _ _ _ _ _ => rfl
  have lc := fun a0 a1 a2 a3 a4 a5 a6 a7 a8 a10 a11 a13 a14 => near_lc (s := s) (nr := near l par eld) (j := j) (near_RL hR1 hR2 l) (by omega) (a0 := a0) (a1 := a1) (a2 := a2) (a3 := a3) (a4 := a4) (a5 := a5) (a6 := a6) (a7 := a7) (a8 := a8) (a10 := a10) (a11 := a11) (a13 := a13) (a14 := a14)
  refine ⟨.dat (parD (near l par eld)), .dat (.bool ((near l par eld).any fun r => r.getD j false)), no_dat _, no_dat _, ?_⟩
  unfold b_law_found_2
  refine (seq_nx (s1 := hS e num par eld s rw_ [.own acc, .dat (nat (j + 1)), .dat (.list []), z11, .un, .un, .un]) ?_).trans ?_
  · unfold sAsg
    rw [show mMap mNil mkL (hS e num par eld s rw_ [.own acc, .dat (nat (j + 1)), z10, z11, .un, .un, .un]) = .ok (.list []) (hS e num par eld s rw_ [.own acc, .dat (nat (j + 1)), z10, z11, .un, .un, .un]) from rfl]
    simp only [ex_ok, t10 _ _ h10, optG_some]
  refine (seq_nx (s1 := hS e num par eld s rw_ [.own acc, .dat (nat (j + 1)), .dat (if l = .child then parD (near l par eld) else .list []), z11, .un, .un, .un]) ?_).trans ?_
  · cases l <;> simp only [mVar, mC, mMap, mMap2, lift_some, lift_none, bind_ok, bind_err, bind_bad, mCons, mNil, mT, asB_bool, asB, mAnd, mOr, mNot, andV_eq, orV_eq, mNotV, mIf, chain_eq, chK_b, mCall, sSeq, sNext, sIf, sRet, sRetN, sDrop, sAsg, sRaise, sFor, sApp, sOwn, setO, ownAt, mOwn1, mPop0, sFrz, frz, sAug, ex_ok, ex_err, ex_bad, then_nx, then_ret, then_brk, then_ct, then_err, optG_some, optG_none, tName, setD, tTupG, tsCons, tsNil, Option.bind_some, List.getElem?_cons_zero, List.getElem?_cons_succ, List.set_cons_zero, List.set_cons_succ, List.length_cons, List.length_nil, Bool.not_true, Bool.not_false, Bool.false_eq_true, if_true, if_false, reduceIte, List.map_cons, List.map_nil, List.cons_append, List.nil_append, List.replicate, Nat.reduceSub, Nat.reduceAdd, Nat.reduceEqDiff, Option.map_some, Option.map_none, outs, Int.reduceAdd, Int.reduceSub, Int.reduceBEq, Int.reduceLT, Int.reduceLE, decide_true, decide_false, beq_self_eq_true, cast_0, cast_1, cast_2, cast_3, cast_4, cast_5, isi_str, isi_tup, addD_i, addI_i, subD_i, leD_i, leD_s, ltD_i, ltD_s, gtD_i, geD_i, eqD_i, neD_i, eqD_b, neD_b, eqD_s, lenD_l, lenD_t, absD_i, intD_i, tupD_l, tupD_t, lstD_l, lstD_t, mkT_0, mkT_1, mkT_2, mkT_3, mkL_0, mkL_1, sized_0, sized_1, ix_0, ix_1, ix_2, isT_t, isT_s, isT_l, isT_i, isT_n, isS_s, isS_t, isS_l, isS_i, isS_n, neD_s, Kd.inj, Mk.inj, Lk.inj, s_km, s_mk, List.length_append, L_c, L_i, L_n, L_a, L_cc, L_ic, L_ii, L_nc, L_ni, L_nn, L_ac, L_ai, L_an, L_aa, e1, g0, hy', mSl, mPart, par_take, near] <;> rfl
  refine (seq_nx (s1 := hS e num par eld s rw_ [.own acc, .dat (nat (j + 1)), .dat (if l = .child ∨ l = .inside then parD (near l par eld) else .list []), z11, .un, .un, .un]) ?_).trans ?_
  · cases l <;> simp only [mVar, mC, mMap, mMap2, lift_some, lift_none, bind_ok, bind_err, bind_bad, mCons, mNil, mT, asB_bool, asB, mAnd, mOr, mNot, andV_eq, orV_eq, mNotV, mIf, chain_eq, chK_b, mCall, sSeq, sNext, sIf, sRet, sRetN, sDrop, sAsg, sRaise, sFor, sApp, sOwn, setO, ownAt, mOwn1, mPop0, sFrz, frz, sAug, ex_ok, ex_err, ex_bad, then_nx, then_ret, then_brk, then_ct, then_err, optG_some, optG_none, tName, setD, tTupG, tsCons, tsNil, Option.bind_some, List.getElem?_cons_zero, List.getElem?_cons_succ, List.set_cons_zero, List.set_cons_succ, List.length_cons, List.length_nil, Bool.not_true, Bool.not_false, Bool.false_eq_true, if_true, if_false, reduceIte, List.map_cons, List.map_nil, List.cons_append, List.nil_append, List.replicate, Nat.reduceSub, Nat.reduceAdd, Nat.reduceEqDiff, Option.map_some, Option.map_none, outs, Int.reduceAdd, Int.reduceSub, Int.reduceBEq, Int.reduceLT, Int.reduceLE, decide_true, decide_false, beq_self_eq_true, cast_0, cast_1, cast_2, cast_3, cast_4, cast_5, isi_str, isi_tup, addD_i, addI_i, subD_i, leD_i, leD_s, ltD_i, ltD_s, gtD_i, geD_i, eqD_i, neD_i, eqD_b, neD_b, eqD_s, lenD_l, lenD_t, absD_i, intD_i, tupD_l, tupD_t, lstD_l, lstD_t, mkT_0, mkT_1, mkT_2, mkT_3, mkL_0, mkL_1, sized_0, sized_1, ix_0, ix_1, ix_2, isT_t, isT_s, isT_l, isT_i, isT_n, isS_s, isS_t, isS_l, isS_i, isS_n, neD_s, Kd.inj, Mk.inj, Lk.inj, s_km, s_mk, List.length_append, L_c, L_i, L_n, L_a, L_cc, L_ic, L_ii, L_nc, L_ni, L_nn, L_ac, L_ai, L_an, L_aa, e1, g0, hy', mSl, mPart, par_take, near] <;> rfl
  refine (seq_nx (s1 := hS e num par eld s rw_ [.own acc, .dat (nat (j + 1)), .dat (if l = .child ∨ l = .inside ∨ l = .next then parD (near l par eld) else .list []), z11, .un, .un, .un]) ?_).trans ?_
  · cases l <;> simp only [mVar, mC, mMap, mMap2, lift_some, lift_none, bind_ok, bind_err, bind_bad, mCons, mNil, mT, asB_bool, asB, mAnd, mOr, mNot, andV_eq, orV_eq, mNotV, mIf, chain_eq, chK_b, mCall, sSeq, sNext, sIf, sRet, sRetN, sDrop, sAsg, sRaise, sFor, sApp, sOwn, setO, ownAt, mOwn1, mPop0, sFrz, frz, sAug, ex_ok, ex_err, ex_bad, then_nx, then_ret, then_brk, then_ct, then_err, optG_some, optG_none, tName, setD, tTupG, tsCons, tsNil, Option.bind_some, List.getElem?_cons_zero, List.getElem?_cons_succ, List.set_cons_zero, List.set_cons_succ, List.length_cons, List.length_nil, Bool.not_true, Bool.not_false, Bool.false_eq_true, if_true, if_false, reduceIte, List.map_cons, List.map_nil, List.cons_append, List.nil_append, List.replicate, Nat.reduceSub, Nat.reduceAdd, Nat.reduceEqDiff, Option.map_some, Option.map_none, outs, Int.reduceAdd, Int.reduceSub, Int.reduceBEq, Int.reduceLT, Int.reduceLE, decide_true, decide_false, beq_self_eq_true, cast_0, cast_1, cast_2, cast_3, cast_4, cast_5, isi_str, isi_tup, addD_i, addI_i, subD_i, leD_i, leD_s, ltD_i, ltD_s, gtD_i, geD_i, eqD_i, neD_i, eqD_b, neD_b, eqD_s, lenD_l, lenD_t, absD_i, intD_i, tupD_l, tupD_t, lstD_l, lstD_t, mkT_0, mkT_1, mkT_2, mkT_3, mkL_0, mkL_1, sized_0, sized_1, ix_0, ix_1, ix_2, isT_t, isT_s, isT_l, isT_i, isT_n, isS_s, isS_t, isS_l, isS_i, isS_n, neD_s, Kd.inj, Mk.inj, Lk.inj, s_km, s_mk, List.length_append, L_c, L_i, L_n, L_a, L_cc, L_ic, L_ii, L_nc, L_ni, L_nn, L_ac, L_ai, L_an, L_aa, e1, g0, hy', mSl, mPart, par_take, near] <;> rfl
  refine (seq_nx (s1 := hS e num par eld s rw_ [.own acc, .dat (nat (j + 1)), .dat (parD (near l par eld)), z11, .un, .un, .un]) ?_).trans ?_
  · cases l <;> simp only [mVar, mC, mMap, mMap2, lift_some, lift_none, bind_ok, bind_err, bind_bad, mCons, mNil, mT, asB_bool, asB, mAnd, mOr, mNot, andV_eq, orV_eq, mNotV, mIf, chain_eq, chK_b, mCall, sSeq, sNext, sIf, sRet, sRetN, sDrop, sAsg, sRaise, sFor, sApp, sOwn, setO, ownAt, mOwn1, mPop0, sFrz, frz, sAug, ex_ok, ex_err, ex_bad, then_nx, then_ret, then_brk, then_ct, then_err, optG_some, optG_none, tName, setD, tTupG, tsCons, tsNil, Option.bind_some, List.getElem?_cons_zero, List.getElem?_cons_succ, List.set_cons_zero, List.set_cons_succ, List.length_cons, List.length_nil, Bool.not_true, Bool.not_false, Bool.false_eq_true, if_true, if_false, reduceIte, List.map_cons, List.map_nil, List.cons_append, List.nil_append, List.replicate, Nat.reduceSub, Nat.reduceAdd, Nat.reduceEqDiff, Option.map_some, Option.map_none, outs, Int.reduceAdd, Int.reduceSub, Int.reduceBEq, Int.reduceLT, Int.reduceLE, decide_true, decide_false, beq_self_eq_true, cast_0, cast_1, cast_2, cast_3, cast_4, cast_5, isi_str, isi_tup, addD_i, addI_i, subD_i, leD_i, leD_s, ltD_i, ltD_s, gtD_i, geD_i, eqD_i, neD_i, eqD_b, neD_b, eqD_s, lenD_l, lenD_t, absD_i, intD_i, tupD_l, tupD_t, lstD_l, lstD_t, mkT_0, mkT_1, mkT_2, mkT_3, mkL_0, mkL_1, sized_0, sized_1, ix_0, ix_1, ix_2, isT_t, isT_s, isT_l, isT_i, isT_n, isS_s, isS_t, isS_l, isS_i, isS_n, neD_s, Kd.inj, Mk.inj, Lk.inj, s_km, s_mk, List.length_append, L_c, L_i, L_n, L_a, L_cc, L_ic, L_ii, L_nc, L_ni, L_nn, L_ac, L_ai, L_an, L_aa, e1, g0, hy', mSl, mPart, par_take, near] <;> rfl
  refine (seq_nx (s1 := hS e num par eld s rw_ [.own acc, .dat (nat (j + 1)), .dat (parD (near l par eld)), .dat (.bool ((near l par eld).any fun r => r.getD j false)), .un, .un, .un]) ?_).trans ?_
  · unfold sAsg
    rw [show (mOrV (mMap2 (mVar 9) (mC (.int 0)) eqD) (mMap2 (mMap (mCons (mL (mLc [12] (mMap (mVar 10) items) (tName 12) t_law_found_1 (mVar 12))) mNil) lenD) (mC (.int 0)) gtD)) (hS e num par eld s rw_ [.own acc, .dat (nat (j + 1)), .dat (parD (near l par eld)), z11, .un, .un, .un]) = .ok (.bool ((near l par eld).any fun r => r.getD j false)) (hS e num par eld s rw_ [.own acc, .dat (nat (j + 1)), .dat (parD (near l par eld)), z11, .un, .un, .un]) from by simp only [mVar, mC, mMap, mMap2, lift_some, lift_none, bind_ok, bind_err, bind_bad, mCons, mNil, mT, asB_bool, asB, mAnd, mOr, mNot, andV_eq, orV_eq, mNotV, mIf, chain_eq, chK_b, mCall, sSeq, sNext, sIf, sRet, sRetN, sDrop, sAsg, sRaise, sFor, sApp, sOwn, setO, ownAt, mOwn1, mPop0, sFrz, frz, sAug, ex_ok, ex_err, ex_bad, then_nx, then_ret, then_brk, then_ct, then_err, optG_some, optG_none, tName, setD, tTupG, tsCons, tsNil, Option.bind_some, List.getElem?_cons_zero, List.getElem?_cons_succ, List.set_cons_zero, List.set_cons_succ, List.length_cons, List.length_nil, Bool.not_true, Bool.not_false, Bool.false_eq_true, if_true, if_false, reduceIte, List.map_cons, List.map_nil, List.cons_append, List.nil_append, List.replicate, Nat.reduceSub, Nat.reduceAdd, Nat.reduceEqDiff, Option.map_some, Option.map_none, outs, Int.reduceAdd, Int.reduceSub, Int.reduceBEq, Int.reduceLT, Int.reduceLE, decide_true, decide_false, beq_self_eq_true, cast_0, cast_1, cast_2, cast_3, cast_4, cast_5, isi_str, isi_tup, addD_i, addI_i, subD_i, leD_i, leD_s, ltD_i, ltD_s, gtD_i, geD_i, eqD_i, neD_i, eqD_b, neD_b, eqD_s, lenD_l, lenD_t, absD_i, intD_i, tupD_l, tupD_t, lstD_l, lstD_t, mkT_0, mkT_1, mkT_2, mkT_3, mkL_0, mkL_1, sized_0, sized_1, ix_0, ix_1, ix_2, isT_t, isT_s, isT_l, isT_i, isT_n, isS_s, isS_t, isS_l, isS_i, isS_n, neD_s, Kd.inj, Mk.inj, Lk.inj, s_km, s_mk, List.length_append, L_c, L_i, L_n, L_a, L_cc, L_ic, L_ii, L_nc, L_ni, L_nn, L_ac, L_ai, L_an, L_aa, n0, mL, mLc, hi, w12, n12, lc, List.length_map, hz, u12, fp]]
    simp only [ex_ok, t11, optG_some]
  rw [hc]
  rcases two ((near l par eld).any fun r => r.getD j false) with h | h <;> simp only [mVar, mC, mMap, mMap2, lift_some, lift_none, bind_ok, bind_err, bind_bad, mCons, mNil, mT, asB_bool, asB, mAnd, mOr, mNot, andV_eq, orV_eq, mNotV, mIf, chain_eq, chK_b, mCall, sSeq, sNext, sIf, sRet, sRetN, sDrop, sAsg, sRaise, sFor, sApp, sOwn, setO, ownAt, mOwn1, mPop0, sFrz, frz, sAug, ex_ok, ex_err, ex_bad, then_nx, then_ret, then_brk, then_ct, then_err, optG_some, optG_none, tName, setD, tTupG, tsCons, tsNil, Option.bind_some, List.getElem?_cons_zero, List.getElem?_cons_succ, List.set_cons_zero, List.set_cons_succ, List.length_cons, List.length_nil, Bool.not_true, Bool.not_false, Bool.false_eq_true, if_true, if_false, reduceIte, List.map_cons, List.map_nil, List.cons_append, List.nil_append, List.replicate, Nat.reduceSub, Nat.reduceAdd, Nat.reduceEqDiff, Option.map_some, Option.map_none, outs, Int.reduceAdd, Int.reduceSub, Int.reduceBEq, Int.reduceLT, Int.reduceLE, decide_true, decide_false, beq_self_eq_true, cast_0, cast_1, cast_2, cast_3, cast_4, cast_5, isi_str, isi_tup, addD_i, addI_i, subD_i, leD_i, leD_s, ltD_i, ltD_s, gtD_i, geD_i, eqD_i, neD_i, eqD_b, neD_b, eqD_s, lenD_l, lenD_t, absD_i, intD_i, tupD_l, tupD_t, lstD_l, lstD_t, mkT_0, mkT_1, mkT_2, mkT_3, mkL_0, mkL_1, sized_0, sized_1, ix_0, ix_1, ix_2, isT_t, isT_s, isT_l, isT_i, isT_n, isS_s, isS_t, isS_l, isS_i, isS_n, neD_s, Kd.inj, Mk.inj, Lk.inj, s_km, s_mk, List.length_append, L_c, L_i, L_n, L_a, L_cc, L_ic, L_ii, L_nc, L_ni, L_nn, L_ac, L_ai, L_an, L_aa, hx', lf, hsz, h, Bool.true_and, Bool.false_and]
end DL

namespace DL
open PySem PySem.Spec L2
structure SelOk (s : Sel) : Prop where
  ll : s.ls.length + 1 = s.ps.length
  pl : s.ps.length ≤ 100
  pm : ∀ q ∈ s.ps, q.m.length ≤ 1000
theorem row_loop {e : El} {num : Nat} {par eld : List (List Bool)} {s : Sel} {rw_ : Sl} (hs : SelOk s) (hn : num ≤ 10000) (hR1 : RL s par) (hR2 : RL s eld) (hq1 : par.length ≤ 1000) (hq2 : eld.length ≤ 1000) :
    ∃ z9 z10 z11, NO z9 ∧ NO z10 ∧ NO z11 ∧ forG (tName 9) b_law_found_2 ((List.range s.ps.length).map nat) (hS e num par eld s rw_ [.own [], .un, .un, .un, .un, .un, .un]) = .nx (hS e num par eld s rw_ [.own ((rowOf s e num par eld).map .bool), z9, z10, z11, .un, .un, .un]) := by
  have q := for_list (t := tName 9) (body := b_law_found_2) nat (fun k st => ∃ z9 z10 z11, NO z9 ∧ NO z10 ∧ NO z11 ∧ st = hS e num par eld s rw_ [.own ((List.range k).map fun j => .bool (cell s e num par eld j)), z9, z10, z11, .un, .un, .un])
    (List.range s.ps.length) 0 (hS e num par eld s rw_ [.own [], .un, .un, .un, .un, .un, .un]) ⟨.un, .un, .un, no_un, no_un, no_un, rfl⟩ fun k x st hx ⟨z9, z10, z11, h9, h10, h11, hst⟩ => by
      obtain ⟨hk, rfl⟩ := range_get hx
      subst hst
      rw [Nat.zero_add]
      have hlen : ((List.range x).map fun j => PyData.bool (cell s e num par eld j)).length ≤ 1000 := by rw [List.length_map, List.length_range]; have := hs.pl; omega
      have step : ∃ y10 y11, NO y10 ∧ NO y11 ∧ b_law_found_2 (hS e num par eld s rw_ [.own ((List.range x).map fun j => .bool (cell s e num par eld j)), .dat (nat x), z10, z11, .un, .un, .un]) = .nx (hS e num par eld s rw_ [.own (((List.range x).map fun j => .bool (cell s e num par eld j)) ++ [.bool (cell s e num par eld x)]), .dat (nat x), y10, y11, .un, .un, .un]) := by
        cases x with
        | zero => exact cell_0 hn hs.pm hk hlen h10 h11
        | succ j => exact cell_1 hn hs.pm hk hs.ll hlen hR1 hR2 hq1 hq2 h10 h11
      obtain ⟨y10, y11, k10, k11, e2⟩ := step
      refine ⟨_, _, set_no h9 rfl, e2, .dat (nat x), y10, y11, no_dat _, k10, k11, ?_⟩
      rw [List.range_succ, List.map_append]
      rfl
  obtain ⟨s', e1, z9, z10, z11, h9, h10, h11, hst⟩ := q
  refine ⟨z9, z10, z11, h9, h10, h11, ?_⟩
  rw [e1, hst, Nat.zero_add, List.length_range]
  unfold rowOf
  rw [List.map_map]
  rfl
theorem rowOf_RL {s : Sel} {e : El} {num : Nat} {par eld rs : List (List Bool)} (h : RL s rs) : RL s (rowOf s e num par eld :: rs) := fun r hr => by
  rcases List.mem_cons.mp hr with hr | hr
  · rw [hr]; exact rowOf_len s e num par eld
  · exact h r hr
theorem child_loop {e : El} {num : Nat} {par eld below : List (List Bool)} {s : Sel} {F : FnM} {row : List Bool} {z10 z11 : Sl}
    (hF : ∀ x ∈ e.c, ∀ (i : Nat) (before : List (List Bool)) (rows : List Bool), i ≤ 9000 → RL s before → before.length ≤ 1000 → rows.length + x.sz ≤ 90000 → F [.dat (eD x), .dat (nat i), .dat (parD below), .dat (parD before), .dat (sD s), .own (rows.map .bool)] = .ok (rowD (rowOf s x i below before)) [.dat (eD x), .dat (nat i), .dat (parD below), .dat (parD before), .dat (sD s), .own ((rows ++ fnd s x i below before).map .bool)]) :
    ∀ (suf : List El) (i : Nat) (rows : List Bool) (before : List (List Bool)) (z9 : Sl), NO z9 → (∀ k x, suf[k]? = some x → e.c[i + k]? = some x) → i + suf.length ≤ 900 → RL s before → before.length + suf.length ≤ 1000 → rows.length + szs suf ≤ 90000 →
    ∃ z9' before', forG (tName 9) (b_law_found_3 F) ((List.range' i suf.length).map nat) (hS e num par eld s (.own (rows.map .bool)) [.dat (rowD row), z9, z10, z11, .un, .dat (parD below), .dat (parD before)]) = .nx (hS e num par eld s (.own ((rows ++ fndF s i suf below before).map .bool)) [.dat (rowD row), z9', z10, z11, .un, .dat (parD below), .dat (parD before')])
  | [], i, rows, before, z9, _, _, _, _, _, _ => ⟨z9, before, by rw [fndF, List.append_nil]; rfl⟩
  | x :: r, i, rows, before, z9, h9, hx, hi, hR, hb, hr => by
    rw [List.length_cons] at hi hb
    rw [szs] at hr
    have hx0 := hx 0 x rfl
    rw [Nat.add_zero] at hx0
    have hm := List.mem_of_getElem? hx0
    have hx' : ixD (.tuple (e.c.map eD)) (nat i) = some (eD x) := ix_nat (by rw [List.getElem?_map, hx0]; rfl)
    have q := hF x hm (i + 1) before rows (by omega) hR (by omega) (by omega)
    have e1 : (i : Int) + 1 = ((i + 1 : Nat) : Int) := by omega
    have ad : addD (.list [rowD (rowOf s x (i + 1) below before)]) (parD before) = some (parD (rowOf s x (i + 1) below before :: before)) := addL_sm (by rw [List.length_singleton, List.length_map]; omega)
    have st : b_law_found_3 F (hS e num par eld s (.own (rows.map .bool)) [.dat (rowD row), .dat (nat i), z10, z11, .un, .dat (parD below), .dat (parD before)]) = .nx (hS e num par eld s (.own ((rows ++ fnd s x (i + 1) below before).map .bool)) [.dat (rowD row), .dat (nat i), z10, z11, .un, .dat (parD below), .dat (parD (rowOf s x (i + 1) below before :: before))]) := by
      unfold b_law_found_3
      generalize rowOf s x (i + 1) below before = r1 at q ad ⊢
      generalize (rows ++ fnd s x (i + 1) below before).map PyData.bool = rs at q ⊢
      simp only [mVar, mC, mMap, mMap2, lift_some, lift_none, bind_ok, bind_err, bind_bad, mCons, mNil, mT, asB_bool, asB, mAnd, mOr, mNot, andV_eq, orV_eq, mNotV, mIf, chain_eq, chK_b, mCall, sSeq, sNext, sIf, sRet, sRetN, sDrop, sAsg, sRaise, sFor, sApp, sOwn, setO, ownAt, mOwn1, mPop0, sFrz, frz, sAug, ex_ok, ex_err, ex_bad, then_nx, then_ret, then_brk, then_ct, then_err, optG_some, optG_none, tName, setD, tTupG, tsCons, tsNil, Option.bind_some, List.getElem?_cons_zero, List.getElem?_cons_succ, List.set_cons_zero, List.set_cons_succ, List.length_cons, List.length_nil, Bool.not_true, Bool.not_false, Bool.false_eq_true, if_true, if_false, reduceIte, List.map_cons, List.map_nil, List.cons_append, List.nil_append, List.replicate, Nat.reduceSub, Nat.reduceAdd, Nat.reduceEqDiff, Option.map_some, Option.map_none, outs, Int.reduceAdd, Int.reduceSub, Int.reduceBEq, Int.reduceLT, Int.reduceLE, decide_true, decide_false, beq_self_eq_true, cast_0, cast_1, cast_2, cast_3, cast_4, cast_5, isi_str, isi_tup, addD_i, addI_i, subD_i, leD_i, leD_s, ltD_i, ltD_s, gtD_i, geD_i, eqD_i, neD_i, eqD_b, neD_b, eqD_s, lenD_l, lenD_t, absD_i, intD_i, tupD_l, tupD_t, lstD_l, lstD_t, mkT_0, mkT_1, mkT_2, mkT_3, mkL_0, mkL_1, sized_0, sized_1, ix_0, ix_1, ix_2, isT_t, isT_s, isT_l, isT_i, isT_n, isS_s, isS_t, isS_l, isS_i, isS_n, neD_s, Kd.inj, Mk.inj, Lk.inj, s_km, s_mk, List.length_append, L_c, L_i, L_n, L_a, L_cc, L_ic, L_ii, L_nc, L_ni, L_nn, L_ac, L_ai, L_an, L_aa, eD_2, hx', e1, mCallO, q, ad]
    obtain ⟨z9', before', ih⟩ := child_loop (num := num) (par := par) (eld := eld) (row := row) (z10 := z10) (z11 := z11) hF r (i + 1) (rows ++ fnd s x (i + 1) below before) (rowOf s x (i + 1) below before :: before) (.dat (nat i)) (no_dat _) (fun k y hy => by
      have := hx (k + 1) y (by simpa using hy)
      rw [show i + (k + 1) = i + 1 + k by omega] at this
      exact this) (by omega) (rowOf_RL hR) (by rw [List.length_cons]; omega) (by rw [List.length_append, fnd_len]; omega)
    refine ⟨z9', before', ?_⟩
    rw [List.length_cons, List.range'_succ, List.map_cons, for_nx (set_no h9 rfl) st, ih, fndF, List.append_assoc]
theorem last_of {r : List Bool} (h : 0 < r.length) : ∃ i l, r = i ++ [l] ∧ r.getLastD false = l := by
  rcases List.eq_nil_or_concat r with rfl | ⟨i, l, rfl⟩
  · simp at h
  · exact ⟨i, l, List.concat_eq_append, by rw [List.concat_eq_append]; simp⟩
theorem found_eq {s : Sel} (hs : SelOk s) : ∀ (n : Nat) (e : El) (num : Nat) (par eld : List (List Bool)) (rows : List Bool), e.dep ≤ n → e.sz ≤ 900 → num ≤ 10000 → RL s par → RL s eld → par.length + e.dep ≤ 1000 → eld.length ≤ 1000 → rows.length + e.sz ≤ 90000 →
    F_law_found n [.dat (eD e), .dat (nat num), .dat (parD par), .dat (parD eld), .dat (sD s), .own (rows.map .bool)] = .ok (rowD (rowOf s e num par eld)) [.dat (eD e), .dat (nat num), .dat (parD par), .dat (parD eld), .dat (sD s), .own ((rows ++ fnd s e num par eld).map .bool)]
  | 0, e, _, _, _, _, h, _, _, _, _, _, _, _ => by rw [e.dep_eq] at h; omega
  | n + 1, e, num, par, eld, rows, h, hz, hn, hR1, hR2, hp, he, hr => by
    rw [e.dep_eq] at h hp
    rw [e.sz_eq] at hz hr
    have hcl := szs_len e.c
    obtain ⟨z9, z10, z11, h9, h10, h11, q1⟩ := row_loop (e := e) (rw_ := .own (rows.map .bool)) hs hn hR1 hR2 (by omega) he
    obtain ⟨ini, last, hrow, hlast⟩ := last_of (r := rowOf s e num par eld) (by rw [rowOf_len]; have := hs.ll; omega)
    have hr1 : rng1 [nat s.ps.length] = some ((List.range s.ps.length).map nat) := rng_nat (by have := hs.pl; omega)
    have hr2 : rng1 [nat e.c.length] = some ((List.range e.c.length).map nat) := rng_nat (by omega)
    obtain ⟨z9', before', q2⟩ := child_loop (e := e) (num := num) (par := par) (eld := eld) (below := rowOf s e num par eld :: par) (s := s) (F := F_law_found n) (row := rowOf s e num par eld) (z10 := z10) (z11 := z11)
      (fun x hx i before rs h1 h2 h3 h4 => found_eq hs n x i _ before rs (deps_le.mp (by omega) x hx) (by have := szs_mem hx; omega) (by omega) (rowOf_RL hR1) h2 (by rw [List.length_cons]; have := deps_le.mp (Nat.le_refl _) x hx; omega) h3 h4)
      e.c 0 (rows ++ [last]) [] z9 h9 (fun k x hx => by rw [Nat.zero_add]; exact hx) (by omega) (fun r hr => by cases hr) (by rw [List.length_nil]; omega) (by rw [List.length_append, List.length_singleton]; omega)
    have hsz : (rows.map PyData.bool).length < sizeLine := by rw [List.length_map]; exact Nat.lt_of_lt_of_le (by omega : rows.length < 100000) (small_line (Nat.le_refl _))
    have hn1 : negD (.int 1) = some (.int (-1)) := rfl
    have ad : addD (.list [rowD (rowOf s e num par eld)]) (parD par) = some (parD (rowOf s e num par eld :: par)) := addL_sm (by rw [List.length_singleton, List.length_map]; omega)
    have ixl : ixD (.list ((rowOf s e num par eld).map .bool)) (.int (-1)) = some (.bool last) := by rw [hrow, List.map_append]; exact ixl_last _ _
    have fr : PyData.list ((rowOf s e num par eld).map .bool) = rowD (rowOf s e num par eld) := rfl
    have rs1 : rows.map PyData.bool ++ [.bool last] = (rows ++ [last]).map .bool := by rw [List.map_append]; rfl
    have main : g_law_found (F_law_found n) [.dat (eD e), .dat (nat num), .dat (parD par), .dat (parD eld), .dat (sD s), .own (rows.map .bool), .un, .un, .un, .un, .un, .un, .un, .un, .un] = .ret (rowD (rowOf s e num par eld)) (hS e num par eld s (.own ((rows ++ [last] ++ fndF s 0 e.c (rowOf s e num par eld :: par) []).map .bool)) [.dat (rowD (rowOf s e num par eld)), z9', z10, z11, .un, .dat (parD (rowOf s e num par eld :: par)), .dat (parD before')]) := by
      unfold g_law_found
      refine (seq_nx (s1 := [.dat (eD e), .dat (nat num), .dat (parD par), .dat (parD eld), .dat (sD s), .own (rows.map .bool), .dat (.tuple (s.ps.map pD)), .un, .un, .un, .un, .un, .un, .un, .un]) (by simp only [mVar, mC, mMap, mMap2, lift_some, lift_none, bind_ok, bind_err, bind_bad, mCons, mNil, mT, asB_bool, asB, mAnd, mOr, mNot, andV_eq, orV_eq, mNotV, mIf, chain_eq, chK_b, mCall, sSeq, sNext, sIf, sRet, sRetN, sDrop, sAsg, sRaise, sFor, sApp, sOwn, setO, ownAt, mOwn1, mPop0, sFrz, frz, sAug, ex_ok, ex_err, ex_bad, then_nx, then_ret, then_brk, then_ct, then_err, optG_some, optG_none, tName, setD, tTupG, tsCons, tsNil, Option.bind_some, List.getElem?_cons_zero, List.getElem?_cons_succ, List.set_cons_zero, List.set_cons_succ, List.length_cons, List.length_nil, Bool.not_true, Bool.not_false, Bool.false_eq_true, if_true, if_false, reduceIte, List.map_cons, List.map_nil, List.cons_append, List.nil_append, List.replicate, Nat.reduceSub, Nat.reduceAdd, Nat.reduceEqDiff, Option.map_some, Option.map_none, outs, Int.reduceAdd, Int.reduceSub, Int.reduceBEq, Int.reduceLT, Int.reduceLE, decide_true, decide_false, beq_self_eq_true, cast_0, cast_1, cast_2, cast_3, cast_4, cast_5, isi_str, isi_tup, addD_i, addI_i, subD_i, leD_i, leD_s, ltD_i, ltD_s, gtD_i, geD_i, eqD_i, neD_i, eqD_b, neD_b, eqD_s, lenD_l, lenD_t, absD_i, intD_i, tupD_l, tupD_t, lstD_l, lstD_t, mkT_0, mkT_1, mkT_2, mkT_3, mkL_0, mkL_1, sized_0, sized_1, ix_0, ix_1, ix_2, isT_t, isT_s, isT_l, isT_i, isT_n, isS_s, isS_t, isS_l, isS_i, isS_n, neD_s, Kd.inj, Mk.inj, Lk.inj, s_km, s_mk, List.length_append, L_c, L_i, L_n, L_a, L_cc, L_ic, L_ii, L_nc, L_ni, L_nn, L_ac, L_ai, L_an, L_aa, sD_0])).trans ?_
      refine (seq_nx (s1 := hS e num par eld s (.own (rows.map .bool)) [.un, .un, .un, .un, .un, .un, .un]) (by simp only [mVar, mC, mMap, mMap2, lift_some, lift_none, bind_ok, bind_err, bind_bad, mCons, mNil, mT, asB_bool, asB, mAnd, mOr, mNot, andV_eq, orV_eq, mNotV, mIf, chain_eq, chK_b, mCall, sSeq, sNext, sIf, sRet, sRetN, sDrop, sAsg, sRaise, sFor, sApp, sOwn, setO, ownAt, mOwn1, mPop0, sFrz, frz, sAug, ex_ok, ex_err, ex_bad, then_nx, then_ret, then_brk, then_ct, then_err, optG_some, optG_none, tName, setD, tTupG, tsCons, tsNil, Option.bind_some, List.getElem?_cons_zero, List.getElem?_cons_succ, List.set_cons_zero, List.set_cons_succ, List.length_cons, List.length_nil, Bool.not_true, Bool.not_false, Bool.false_eq_true, if_true, if_false, reduceIte, List.map_cons, List.map_nil, List.cons_append, List.nil_append, List.replicate, Nat.reduceSub, Nat.reduceAdd, Nat.reduceEqDiff, Option.map_some, Option.map_none, outs, Int.reduceAdd, Int.reduceSub, Int.reduceBEq, Int.reduceLT, Int.reduceLE, decide_true, decide_false, beq_self_eq_true, cast_0, cast_1, cast_2, cast_3, cast_4, cast_5, isi_str, isi_tup, addD_i, addI_i, subD_i, leD_i, leD_s, ltD_i, ltD_s, gtD_i, geD_i, eqD_i, neD_i, eqD_b, neD_b, eqD_s, lenD_l, lenD_t, absD_i, intD_i, tupD_l, tupD_t, lstD_l, lstD_t, mkT_0, mkT_1, mkT_2, mkT_3, mkL_0, mkL_1, sized_0, sized_1, ix_0, ix_1, ix_2, isT_t, isT_s, isT_l, isT_i, isT_n, isS_s, isS_t, isS_l, isS_i, isS_n, neD_s, Kd.inj, Mk.inj, Lk.inj, s_km, s_mk, List.length_append, L_c, L_i, L_n, L_a, L_cc, L_ic, L_ii, L_nc, L_ni, L_nn, L_ac, L_ai, L_an, L_aa, sD_1])).trans ?_
      refine (seq_nx (s1 := hS e num par eld s (.own (rows.map .bool)) [.own [], .un, .un, .un, .un, .un, .un]) (by simp only [mVar, mC, mMap, mMap2, lift_some, lift_none, bind_ok, bind_err, bind_bad, mCons, mNil, mT, asB_bool, asB, mAnd, mOr, mNot, andV_eq, orV_eq, mNotV, mIf, chain_eq, chK_b, mCall, sSeq, sNext, sIf, sRet, sRetN, sDrop, sAsg, sRaise, sFor, sApp, sOwn, setO, ownAt, mOwn1, mPop0, sFrz, frz, sAug, ex_ok, ex_err, ex_bad, then_nx, then_ret, then_brk, then_ct, then_err, optG_some, optG_none, tName, setD, tTupG, tsCons, tsNil, Option.bind_some, List.getElem?_cons_zero, List.getElem?_cons_succ, List.set_cons_zero, List.set_cons_succ, List.length_cons, List.length_nil, Bool.not_true, Bool.not_false, Bool.false_eq_true, if_true, if_false, reduceIte, List.map_cons, List.map_nil, List.cons_append, List.nil_append, List.replicate, Nat.reduceSub, Nat.reduceAdd, Nat.reduceEqDiff, Option.map_some, Option.map_none, outs, Int.reduceAdd, Int.reduceSub, Int.reduceBEq, Int.reduceLT, Int.reduceLE, decide_true, decide_false, beq_self_eq_true, cast_0, cast_1, cast_2, cast_3, cast_4, cast_5, isi_str, isi_tup, addD_i, addI_i, subD_i, leD_i, leD_s, ltD_i, ltD_s, gtD_i, geD_i, eqD_i, neD_i, eqD_b, neD_b, eqD_s, lenD_l, lenD_t, absD_i, intD_i, tupD_l, tupD_t, lstD_l, lstD_t, mkT_0, mkT_1, mkT_2, mkT_3, mkL_0, mkL_1, sized_0, sized_1, ix_0, ix_1, ix_2, isT_t, isT_s, isT_l, isT_i, isT_n, isS_s, isS_t, isS_l, isS_i, isS_n, neD_s, Kd.inj, Mk.inj, Lk.inj, s_km, s_mk, List.length_append, L_c, L_i, L_n, L_a, L_cc, L_ic, L_ii, L_nc, L_ni, L_nn, L_ac, L_ai, L_an, L_aa])).trans ?_
      refine (seq_nx (s1 := hS e num par eld s (.own (rows.map .bool)) [.own ((rowOf s e num par eld).map .bool), z9, z10, z11, .un, .un, .un]) ?_).trans ?_
      · unfold sFor
        rw [show (mMap (mCons (mMap (mCons (mVar 6) mNil) lenD) mNil) rng1) (hS e num par eld s (.own (rows.map .bool)) [.own [], .un, .un, .un, .un, .un, .un]) = .ok ((List.range s.ps.length).map nat) (hS e num par eld s (.own (rows.map .bool)) [.own [], .un, .un, .un, .un, .un, .un]) from by simp only [mVar, mC, mMap, mMap2, lift_some, lift_none, bind_ok, bind_err, bind_bad, mCons, mNil, mT, asB_bool, asB, mAnd, mOr, mNot, andV_eq, orV_eq, mNotV, mIf, chain_eq, chK_b, mCall, sSeq, sNext, sIf, sRet, sRetN, sDrop, sAsg, sRaise, sFor, sApp, sOwn, setO, ownAt, mOwn1, mPop0, sFrz, frz, sAug, ex_ok, ex_err, ex_bad, then_nx, then_ret, then_brk, then_ct, then_err, optG_some, optG_none, tName, setD, tTupG, tsCons, tsNil, Option.bind_some, List.getElem?_cons_zero, List.getElem?_cons_succ, List.set_cons_zero, List.set_cons_succ, List.length_cons, List.length_nil, Bool.not_true, Bool.not_false, Bool.false_eq_true, if_true, if_false, reduceIte, List.map_cons, List.map_nil, List.cons_append, List.nil_append, List.replicate, Nat.reduceSub, Nat.reduceAdd, Nat.reduceEqDiff, Option.map_some, Option.map_none, outs, Int.reduceAdd, Int.reduceSub, Int.reduceBEq, Int.reduceLT, Int.reduceLE, decide_true, decide_false, beq_self_eq_true, cast_0, cast_1, cast_2, cast_3, cast_4, cast_5, isi_str, isi_tup, addD_i, addI_i, subD_i, leD_i, leD_s, ltD_i, ltD_s, gtD_i, geD_i, eqD_i, neD_i, eqD_b, neD_b, eqD_s, lenD_l, lenD_t, absD_i, intD_i, tupD_l, tupD_t, lstD_l, lstD_t, mkT_0, mkT_1, mkT_2, mkT_3, mkL_0, mkL_1, sized_0, sized_1, ix_0, ix_1, ix_2, isT_t, isT_s, isT_l, isT_i, isT_n, isS_s, isS_t, isS_l, isS_i, isS_n, neD_s, Kd.inj, Mk.inj, Lk.inj, s_km, s_mk, List.length_append, L_c, L_i, L_n, L_a, L_cc, L_ic, L_ii, L_nc, L_ni, L_nn, L_ac, L_ai, L_an, L_aa, List.length_map, hr1]]
        exact q1
      refine (seq_nx (s1 := hS e num par eld s (.own ((rows ++ [last]).map .bool)) [.own ((rowOf s e num par eld).map .bool), z9, z10, z11, .un, .un, .un]) ?_).trans ?_
      · rw [← rs1]
        simp only [mVar, mC, mMap, mMap2, lift_some, lift_none, bind_ok, bind_err, bind_bad, mCons, mNil, mT, asB_bool, asB, mAnd, mOr, mNot, andV_eq, orV_eq, mNotV, mIf, chain_eq, chK_b, mCall, sSeq, sNext, sIf, sRet, sRetN, sDrop, sAsg, sRaise, sFor, sApp, sOwn, setO, ownAt, mOwn1, mPop0, sFrz, frz, sAug, ex_ok, ex_err, ex_bad, then_nx, then_ret, then_brk, then_ct, then_err, optG_some, optG_none, tName, setD, tTupG, tsCons, tsNil, Option.bind_some, List.getElem?_cons_zero, List.getElem?_cons_succ, List.set_cons_zero, List.set_cons_succ, List.length_cons, List.length_nil, Bool.not_true, Bool.not_false, Bool.false_eq_true, if_true, if_false, reduceIte, List.map_cons, List.map_nil, List.cons_append, List.nil_append, List.replicate, Nat.reduceSub, Nat.reduceAdd, Nat.reduceEqDiff, Option.map_some, Option.map_none, outs, Int.reduceAdd, Int.reduceSub, Int.reduceBEq, Int.reduceLT, Int.reduceLE, decide_true, decide_false, beq_self_eq_true, cast_0, cast_1, cast_2, cast_3, cast_4, cast_5, isi_str, isi_tup, addD_i, addI_i, subD_i, leD_i, leD_s, ltD_i, ltD_s, gtD_i, geD_i, eqD_i, neD_i, eqD_b, neD_b, eqD_s, lenD_l, lenD_t, absD_i, intD_i, tupD_l, tupD_t, lstD_l, lstD_t, mkT_0, mkT_1, mkT_2, mkT_3, mkL_0, mkL_1, sized_0, sized_1, ix_0, ix_1, ix_2, isT_t, isT_s, isT_l, isT_i, isT_n, isS_s, isS_t, isS_l, isS_i, isS_n, neD_s, Kd.inj, Mk.inj, Lk.inj, s_km, s_mk, List.length_append, L_c, L_i, L_n, L_a, L_cc, L_ic, L_ii, L_nc, L_ni, L_nn, L_ac, L_ai, L_an, L_aa, mOwnL, hn1, ixl, hsz]
      show sSeq _ _ (frz 8 _) = _
      refine (seq_nx (s1 := hS e num par eld s (.own ((rows ++ [last]).map .bool)) [.dat (rowD (rowOf s e num par eld)), z9, z10, z11, .un, .dat (parD (rowOf s e num par eld :: par)), .un]) ?_).trans ?_
      · generalize (rowOf s e num par eld :: par) = bl at ad ⊢
        generalize hrr : rowOf s e num par eld = rr at ad fr ⊢
        simp only [mVar, mC, mMap, mMap2, lift_some, lift_none, bind_ok, bind_err, bind_bad, mCons, mNil, mT, asB_bool, asB, mAnd, mOr, mNot, andV_eq, orV_eq, mNotV, mIf, chain_eq, chK_b, mCall, sSeq, sNext, sIf, sRet, sRetN, sDrop, sAsg, sRaise, sFor, sApp, sOwn, setO, ownAt, mOwn1, mPop0, sFrz, frz, sAug, ex_ok, ex_err, ex_bad, then_nx, then_ret, then_brk, then_ct, then_err, optG_some, optG_none, tName, setD, tTupG, tsCons, tsNil, Option.bind_some, List.getElem?_cons_zero, List.getElem?_cons_succ, List.set_cons_zero, List.set_cons_succ, List.length_cons, List.length_nil, Bool.not_true, Bool.not_false, Bool.false_eq_true, if_true, if_false, reduceIte, List.map_cons, List.map_nil, List.cons_append, List.nil_append, List.replicate, Nat.reduceSub, Nat.reduceAdd, Nat.reduceEqDiff, Option.map_some, Option.map_none, outs, Int.reduceAdd, Int.reduceSub, Int.reduceBEq, Int.reduceLT, Int.reduceLE, decide_true, decide_false, beq_self_eq_true, cast_0, cast_1, cast_2, cast_3, cast_4, cast_5, isi_str, isi_tup, addD_i, addI_i, subD_i, leD_i, leD_s, ltD_i, ltD_s, gtD_i, geD_i, eqD_i, neD_i, eqD_b, neD_b, eqD_s, lenD_l, lenD_t, absD_i, intD_i, tupD_l, tupD_t, lstD_l, lstD_t, mkT_0, mkT_1, mkT_2, mkT_3, mkL_0, mkL_1, sized_0, sized_1, ix_0, ix_1, ix_2, isT_t, isT_s, isT_l, isT_i, isT_n, isS_s, isS_t, isS_l, isS_i, isS_n, neD_s, Kd.inj, Mk.inj, Lk.inj, s_km, s_mk, List.length_append, L_c, L_i, L_n, L_a, L_cc, L_ic, L_ii, L_nc, L_ni, L_nn, L_ac, L_ai, L_an, L_aa, fr, ad]
      refine (seq_nx (s1 := hS e num par eld s (.own ((rows ++ [last]).map .bool)) [.dat (rowD (rowOf s e num par eld)), z9, z10, z11, .un, .dat (parD (rowOf s e num par eld :: par)), .dat (parD [])]) ?_).trans ?_
      · simp only [mVar, mC, mMap, mMap2, lift_some, lift_none, bind_ok, bind_err, bind_bad, mCons, mNil, mT, asB_bool, asB, mAnd, mOr, mNot, andV_eq, orV_eq, mNotV, mIf, chain_eq, chK_b, mCall, sSeq, sNext, sIf, sRet, sRetN, sDrop, sAsg, sRaise, sFor, sApp, sOwn, setO, ownAt, mOwn1, mPop0, sFrz, frz, sAug, ex_ok, ex_err, ex_bad, then_nx, then_ret, then_brk, then_ct, then_err, optG_some, optG_none, tName, setD, tTupG, tsCons, tsNil, Option.bind_some, List.getElem?_cons_zero, List.getElem?_cons_succ, List.set_cons_zero, List.set_cons_succ, List.length_cons, List.length_nil, Bool.not_true, Bool.not_false, Bool.false_eq_true, if_true, if_false, reduceIte, List.map_cons, List.map_nil, List.cons_append, List.nil_append, List.replicate, Nat.reduceSub, Nat.reduceAdd, Nat.reduceEqDiff, Option.map_some, Option.map_none, outs, Int.reduceAdd, Int.reduceSub, Int.reduceBEq, Int.reduceLT, Int.reduceLE, decide_true, decide_false, beq_self_eq_true, cast_0, cast_1, cast_2, cast_3, cast_4, cast_5, isi_str, isi_tup, addD_i, addI_i, subD_i, leD_i, leD_s, ltD_i, ltD_s, gtD_i, geD_i, eqD_i, neD_i, eqD_b, neD_b, eqD_s, lenD_l, lenD_t, absD_i, intD_i, tupD_l, tupD_t, lstD_l, lstD_t, mkT_0, mkT_1, mkT_2, mkT_3, mkL_0, mkL_1, sized_0, sized_1, ix_0, ix_1, ix_2, isT_t, isT_s, isT_l, isT_i, isT_n, isS_s, isS_t, isS_l, isS_i, isS_n, neD_s, Kd.inj, Mk.inj, Lk.inj, s_km, s_mk, List.length_append, L_c, L_i, L_n, L_a, L_cc, L_ic, L_ii, L_nc, L_ni, L_nn, L_ac, L_ai, L_an, L_aa]
        rfl
      refine (seq_nx (s1 := hS e num par eld s (.own ((rows ++ [last] ++ fndF s 0 e.c (rowOf s e num par eld :: par) []).map .bool)) [.dat (rowD (rowOf s e num par eld)), z9', z10, z11, .un, .dat (parD (rowOf s e num par eld :: par)), .dat (parD before')]) ?_).trans ?_
      · rw [← q2, ← List.range_eq_range']
        unfold sFor
        rw [show (mMap (mCons (mMap (mCons (mMap2 (mVar 0) (mC (.int 2)) ixD) mNil) lenD) mNil) rng1) (hS e num par eld s (.own ((rows ++ [last]).map .bool)) [.dat (rowD (rowOf s e num par eld)), z9, z10, z11, .un, .dat (parD (rowOf s e num par eld :: par)), .dat (parD [])]) = .ok ((List.range e.c.length).map nat) (hS e num par eld s (.own ((rows ++ [last]).map .bool)) [.dat (rowD (rowOf s e num par eld)), z9, z10, z11, .un, .dat (parD (rowOf s e num par eld :: par)), .dat (parD [])]) from by simp only [mVar, mC, mMap, mMap2, lift_some, lift_none, bind_ok, bind_err, bind_bad, mCons, mNil, mT, asB_bool, asB, mAnd, mOr, mNot, andV_eq, orV_eq, mNotV, mIf, chain_eq, chK_b, mCall, sSeq, sNext, sIf, sRet, sRetN, sDrop, sAsg, sRaise, sFor, sApp, sOwn, setO, ownAt, mOwn1, mPop0, sFrz, frz, sAug, ex_ok, ex_err, ex_bad, then_nx, then_ret, then_brk, then_ct, then_err, optG_some, optG_none, tName, setD, tTupG, tsCons, tsNil, Option.bind_some, List.getElem?_cons_zero, List.getElem?_cons_succ, List.set_cons_zero, List.set_cons_succ, List.length_cons, List.length_nil, Bool.not_true, Bool.not_false, Bool.false_eq_true, if_true, if_false, reduceIte, List.map_cons, List.map_nil, List.cons_append, List.nil_append, List.replicate, Nat.reduceSub, Nat.reduceAdd, Nat.reduceEqDiff, Option.map_some, Option.map_none, outs, Int.reduceAdd, Int.reduceSub, Int.reduceBEq, Int.reduceLT, Int.reduceLE, decide_true, decide_false, beq_self_eq_true, cast_0, cast_1, cast_2, cast_3, cast_4, cast_5, isi_str, isi_tup, addD_i, addI_i, subD_i, leD_i, leD_s, ltD_i, ltD_s, gtD_i, geD_i, eqD_i, neD_i, eqD_b, neD_b, eqD_s, lenD_l, lenD_t, absD_i, intD_i, tupD_l, tupD_t, lstD_l, lstD_t, mkT_0, mkT_1, mkT_2, mkT_3, mkL_0, mkL_1, sized_0, sized_1, ix_0, ix_1, ix_2, isT_t, isT_s, isT_l, isT_i, isT_n, isS_s, isS_t, isS_l, isS_i, isS_n, neD_s, Kd.inj, Mk.inj, Lk.inj, s_km, s_mk, List.length_append, L_c, L_i, L_n, L_a, L_cc, L_ic, L_ii, L_nc, L_ni, L_nn, L_ac, L_ai, L_an, L_aa, eD_2, List.length_map, hr2]]
        rfl
      rfl
    rw [fnd_eq, hlast]
    have fin : rows ++ (last :: fndF s 0 e.c (rowOf s e num par eld :: par) []) = rows ++ [last] ++ fndF s 0 e.c (rowOf s e num par eld :: par) [] := by rw [List.append_assoc]; rfl
    rw [fin]
    exact run_ret main
theorem matched_eq {s : Sel} (hs : SelOk s) {d : El} (hd : d.dep ≤ 7) (hz : d.sz ≤ 900) : F_law_matched [.dat (eD d), .dat (sD s)] = .ok (rowD (fnd s d 1 [] [])) [.dat (eD d), .dat (sD s)] := by
  have q := found_eq hs 7 d 1 [] [] [] hd hz (by decide) (fun r h => by cases h) (fun r h => by cases h) (by rw [List.length_nil]; omega) (by decide) (by rw [List.length_nil]; omega)
  have q : F_law_found 7 [.dat (eD d), .dat (.int 1), .dat (.list []), .dat (.list []), .dat (sD s), .own []] = .ok (rowD (rowOf s d 1 [] [])) [.dat (eD d), .dat (.int 1), .dat (.list []), .dat (.list []), .dat (sD s), .own ((fnd s d 1 [] []).map .bool)] := q
  refine run_x (s := ?_) (st := [.dat (eD d), .dat (sD s), .un]) ?_ ?_
  rotate_left
  · unfold g_law_matched
    simp only [mVar, mC, mMap, mMap2, lift_some, lift_none, bind_ok, bind_err, bind_bad, mCons, mNil, mT, asB_bool, asB, mAnd, mOr, mNot, andV_eq, orV_eq, mNotV, mIf, chain_eq, chK_b, mCall, sSeq, sNext, sIf, sRet, sRetN, sDrop, sAsg, sRaise, sFor, sApp, sOwn, setO, ownAt, mOwn1, mPop0, sFrz, frz, sAug, ex_ok, ex_err, ex_bad, then_nx, then_ret, then_brk, then_ct, then_err, optG_some, optG_none, tName, setD, tTupG, tsCons, tsNil, Option.bind_some, List.getElem?_cons_zero, List.getElem?_cons_succ, List.set_cons_zero, List.set_cons_succ, List.length_cons, List.length_nil, Bool.not_true, Bool.not_false, Bool.false_eq_true, if_true, if_false, reduceIte, List.map_cons, List.map_nil, List.cons_append, List.nil_append, List.replicate, Nat.reduceSub, Nat.reduceAdd, Nat.reduceEqDiff, Option.map_some, Option.map_none, outs, Int.reduceAdd, Int.reduceSub, Int.reduceBEq, Int.reduceLT, Int.reduceLE, decide_true, decide_false, beq_self_eq_true, cast_0, cast_1, cast_2, cast_3, cast_4, cast_5, isi_str, isi_tup, addD_i, addI_i, subD_i, leD_i, leD_s, ltD_i, ltD_s, gtD_i, geD_i, eqD_i, neD_i, eqD_b, neD_b, eqD_s, lenD_l, lenD_t, absD_i, intD_i, tupD_l, tupD_t, lstD_l, lstD_t, mkT_0, mkT_1, mkT_2, mkT_3, mkL_0, mkL_1, sized_0, sized_1, ix_0, ix_1, ix_2, isT_t, isT_s, isT_l, isT_i, isT_n, isS_s, isS_t, isS_l, isS_i, isS_n, neD_s, Kd.inj, Mk.inj, Lk.inj, s_km, s_mk, List.length_append, L_c, L_i, L_n, L_a, L_cc, L_ic, L_ii, L_nc, L_ni, L_nn, L_ac, L_ai, L_an, L_aa, mCallO, q]
    rfl
  · rfl
end DL

namespace DL
open PySem PySem.Spec L2
/-! ### the reading from the root down gives what matching gives -/
def tr (doc : El) (s : Sel) (p : List Nat) : List Bool := (List.range s.ps.length).map fun k => mp doc (s.ps.take (k + 1)).reverse (s.ls.take k).reverse p
def parOf (doc : El) (s : Sel) (p : List Nat) : List (List Bool) := (List.range p.length).map fun j => tr doc s (p.take (p.length - 1 - j))
def eldOf (doc : El) (s : Sel) (p : List Nat) : List (List Bool) := match p.getLast? with
  | none => []
  | some i => (List.range i).map fun j => tr doc s (p.dropLast ++ [i - 1 - j])
theorem parOf_snoc (doc : El) (s : Sel) (q : List Nat) (i : Nat) : parOf doc s (q ++ [i]) = tr doc s q :: parOf doc s q := by
  unfold parOf
  rw [List.length_append, List.length_singleton, List.range_succ_eq_map, List.map_cons, List.map_map]
  congr 1
  · rw [show q.length + 1 - 1 - 0 = q.length by omega, List.take_left']
    rfl
  · refine List.map_congr_left fun j hj => ?_
    have := List.mem_range.mp hj
    show tr doc s ((q ++ [i]).take (q.length + 1 - 1 - (j + 1))) = _
    rw [List.take_append_of_le_length (by omega), show q.length + 1 - 1 - (j + 1) = q.length - 1 - j by omega]
theorem eldOf_snoc (doc : El) (s : Sel) (q : List Nat) (i : Nat) : eldOf doc s (q ++ [i]) = (List.range i).map fun j => tr doc s (q ++ [i - 1 - j]) := by
  unfold eldOf
  rw [List.getLast?_append]
  simp only [List.getLast?_singleton, Option.some_or, List.dropLast_concat]
theorem eldOf_succ (doc : El) (s : Sel) (q : List Nat) (i : Nat) : eldOf doc s (q ++ [i + 1]) = tr doc s (q ++ [i]) :: eldOf doc s (q ++ [i]) := by
  rw [eldOf_snoc, eldOf_snoc, List.range_succ_eq_map, List.map_cons, List.map_map]
  congr 1
  refine List.map_congr_left fun j hj => ?_
  have := List.mem_range.mp hj
  show tr doc s (q ++ [i + 1 - 1 - (j + 1)]) = _
  rw [show i + 1 - 1 - (j + 1) = i - 1 - j by omega]
theorem near_any (doc : El) (s : Sel) (p : List Nat) (l : Lk) (g : List Bool → Bool) : (near l (parOf doc s p) (eldOf doc s p)).any g = (lp p l).any fun r => g (tr doc s r) := by
  rcases List.eq_nil_or_concat p with rfl | ⟨q, i, rfl⟩
  · cases l <;> rfl
  · rw [List.concat_eq_append]
    have flip : ∀ (n : Nat) (h : Nat → Bool), ((List.range n).any fun j => h (n - 1 - j)) = (List.range n).any h := fun n h => by
      rw [Bool.eq_iff_iff, List.any_eq_true, List.any_eq_true]
      constructor
      · rintro ⟨j, hj, e⟩
        have := List.mem_range.mp hj
        exact ⟨n - 1 - j, List.mem_range.mpr (by omega), e⟩
      · rintro ⟨j, hj, e⟩
        have := List.mem_range.mp hj
        exact ⟨n - 1 - j, List.mem_range.mpr (by omega), by rw [show n - 1 - (n - 1 - j) = j by omega]; exact e⟩
    rw [lp_snoc]
    cases l with
    | child =>
      show ((parOf doc s (q ++ [i])).take 1).any g = _
      rw [parOf_snoc]
      rfl
    | inside =>
      show (parOf doc s (q ++ [i])).any g = _
      unfold parOf
      rw [List.any_map, List.any_map, List.length_append, List.length_singleton]
      exact flip (q.length + 1) fun k => g (tr doc s ((q ++ [i]).take k))
    | next =>
      show ((eldOf doc s (q ++ [i])).take 1).any g = _
      cases i with
      | zero => rw [eldOf_snoc]; rfl
      | succ i => rw [eldOf_succ]; rfl
    | after =>
      show (eldOf doc s (q ++ [i])).any g = _
      rw [eldOf_snoc, List.any_map]
      show _ = ((List.range i).map fun k => q ++ [k]).any fun r => g (tr doc s r)
      rw [List.any_map]
      exact flip i fun k => g (tr doc s (q ++ [k]))
theorem mp_cons (doc : El) (q : Part) {qs : List Part} (h : qs ≠ []) (l : Lk) (ls : List Lk) (p : List Nat) : mp doc (q :: qs) (l :: ls) p = (fitsAt doc q p && (lp p l).any (mp doc qs ls)) := by
  cases qs with
  | nil => exact (h rfl).elim
  | cons a r => rfl
theorem tr_get {doc : El} {s : Sel} {p : List Nat} {j : Nat} (h : j < s.ps.length) : (tr doc s p).getD j false = mp doc (s.ps.take (j + 1)).reverse (s.ls.take j).reverse p := by
  unfold tr
  rw [List.getD_eq_getElem?_getD, List.getElem?_map, List.getElem?_range h]
  rfl
theorem cell_tr {doc e : El} {s : Sel} {p : List Nat} (hl : s.ls.length + 1 = s.ps.length) (he : doc.at p = some e) {k : Nat} (hk : k < s.ps.length) : cell s e (numOf p) (parOf doc s p) (eldOf doc s p) k = mp doc (s.ps.take (k + 1)).reverse (s.ls.take k).reverse p := by
  have hx : s.ps[k]? = some s.ps[k] := List.getElem?_eq_getElem hk
  have fa : fitsAt doc s.ps[k] p = fits s.ps[k] e.k e.m (numOf p) := by unfold fitsAt; rw [he]
  have tk : s.ps.take (k + 1) = s.ps.take k ++ [s.ps[k]] := by rw [List.take_append_getElem]
  unfold cell
  rw [hx, tk, List.reverse_append]
  show (linkd s (parOf doc s p) (eldOf doc s p) k && fits s.ps[k] e.k e.m (numOf p)) = mp doc (s.ps[k] :: (s.ps.take k).reverse) _ p
  rw [← fa]
  cases k with
  | zero => rfl
  | succ j =>
    have hj : j < s.ls.length := by omega
    have hy : s.ls[j]? = some s.ls[j] := List.getElem?_eq_getElem hj
    have tl : s.ls.take (j + 1) = s.ls.take j ++ [s.ls[j]] := by rw [List.take_append_getElem]
    rw [tl, List.reverse_append]
    show _ = mp doc (s.ps[j + 1] :: (s.ps.take (j + 1)).reverse) (s.ls[j] :: (s.ls.take j).reverse) p
    rw [mp_cons doc _ (by
      intro h
      have : (s.ps.take (j + 1)).reverse.length = 0 := by rw [h]; rfl
      rw [List.length_reverse, List.length_take] at this
      omega), Bool.and_comm]
    congr 1
    rw [linkd, hy]
    show (near s.ls[j] (parOf doc s p) (eldOf doc s p)).any (fun r => r.getD j false) = _
    rw [near_any]
    congr 1
    funext r
    exact tr_get (by omega)
theorem rowOf_tr {doc e : El} {s : Sel} {p : List Nat} (hl : s.ls.length + 1 = s.ps.length) (he : doc.at p = some e) : rowOf s e (numOf p) (parOf doc s p) (eldOf doc s p) = tr doc s p := by
  unfold rowOf tr
  exact List.map_congr_left fun k hk => cell_tr hl he (List.mem_range.mp hk)
theorem tr_last {doc : El} {s : Sel} {p : List Nat} (hl : s.ls.length + 1 = s.ps.length) : (tr doc s p).getLastD false = mt doc s p := by
  unfold tr mt
  rw [← hl, List.range_succ, List.map_append]
  simp only [List.map_cons, List.map_nil, List.getLastD_concat]
  rw [List.take_of_length_le (by omega), List.take_of_length_le (by omega)]
theorem numOf_snoc (q : List Nat) (i : Nat) : numOf (q ++ [i]) = i + 1 := by
  unfold numOf
  rw [List.getLast?_append]
  rfl
mutual
theorem fnd_tr {doc : El} {s : Sel} (hl : s.ls.length + 1 = s.ps.length) : ∀ (e : El) (p : List Nat), doc.at p = some e → fnd s e (numOf p) (parOf doc s p) (eldOf doc s p) = (places e).map fun q => mt doc s (p ++ q)
  | .mk k m c, p, he => by
    rw [fnd, places, List.map_cons, rowOf_tr hl he, tr_last hl, List.append_nil]
    congr 1
    have := fndF_tr hl c 0 p fun j x hx => by
      rw [at_app, he, Option.bind_some, at_cons, Nat.zero_add]
      show (c[j]?).bind _ = _
      rw [hx, Option.bind_some, at_nil]
    rw [eldOf_snoc] at this
    exact this
theorem fndF_tr {doc : El} {s : Sel} (hl : s.ls.length + 1 = s.ps.length) : ∀ (c : List El) (i : Nat) (p : List Nat), (∀ k x, c[k]? = some x → doc.at (p ++ [i + k]) = some x) → fndF s i c (tr doc s p :: parOf doc s p) (eldOf doc s (p ++ [i])) = (placesF i c).map fun q => mt doc s (p ++ q)
  | [], _, _, _ => rfl
  | x :: r, i, p, h => by
    have h0 := h 0 x rfl
    rw [Nat.add_zero] at h0
    have a := fnd_tr hl x (p ++ [i]) h0
    rw [numOf_snoc, parOf_snoc] at a
    have b := rowOf_tr hl h0
    rw [numOf_snoc, parOf_snoc] at b
    rw [fndF, placesF, List.map_append, List.map_map, a, b, ← eldOf_succ, fndF_tr hl r (i + 1) p fun k y hy => by
      have := h (k + 1) y (by simpa using hy)
      rw [show i + (k + 1) = i + 1 + k by omega] at this
      exact this]
    congr 1
    refine List.map_congr_left fun q _ => ?_
    show mt doc s (p ++ [i] ++ q) = mt doc s (p ++ (i :: q))
    rw [List.append_assoc]
    rfl
end
theorem fnd_mt {doc : El} {s : Sel} (hl : s.ls.length + 1 = s.ps.length) : fnd s doc 1 [] [] = (places doc).map (mt doc s) := by
  have := fnd_tr (doc := doc) hl doc [] (at_nil doc)
  exact this
end DL

namespace DL
open PySem PySem.Spec L2
theorem nn {i : Int} (h : 0 ≤ i) : ∃ m : Nat, i = (m : Int) := ⟨i.toNat, (Int.toNat_of_nonneg h).symm⟩
theorem pow18 : powD (.int 10) (.int 18) = some (.int 1000000000000000000) := by
  show (if (0 : Int) ≤ 18 ∧ (18 : Int) ≤ 1000000 ∧ Int.natAbs 10 < 2 ^ 64 then some (PyData.int (10 ^ Int.toNat 18)) else none) = _
  rw [if_pos (by decide)]
  rfl
/-! ### draws -/
theorem dr1 {a b c d4 : D} {z6 : Sl} : ∀ (ks : List D) (L : List Nat) (m : Nat) (z : Sl), NO z → L.length + ks.length ≤ 10000 →
    ∃ (L' : List Nat) (m' : Nat) (z' : Sl), NO z' ∧ L'.length ≤ L.length + ks.length ∧ forG (tName 7) b_law_draws_1 ks [.dat a, .dat b, .dat c, .own (L.map nat), .dat d4, .dat (nat m), z6, z] = .nx [.dat a, .dat b, .dat c, .own (L'.map nat), .dat d4, .dat (nat m'), z6, z']
  | [], L, m, z, hz, _ => ⟨L, m, z, hz, Nat.le_add_right _ _, rfl⟩
  | x :: r, L, m, z, hz, hl => by
    rw [List.length_cons] at hl
    have e1 : tName 7 x [.dat a, .dat b, .dat c, .own (L.map nat), .dat d4, .dat (nat m), z6, z] = some [.dat a, .dat b, .dat c, .own (L.map nat), .dat d4, .dat (nat m), z6, .dat x] := by cases z <;> first | rfl | exact hz.elim
    have q1 : fdivD (nat m) (.int 10000) = some (nat (m / 10000)) := by
      rw [fdivD_k (by omega)]
      rfl
    have q2 : modD (nat m) (.int 10000) = some (nat (m % 10000)) := by
      rw [modD_k (by omega)]
      rfl
    have hs : (L.map nat).length < sizeLine := by
      rw [List.length_map]
      exact Nat.lt_of_lt_of_le (by omega : L.length < 10001) (small_line (by decide))
    by_cases hm : 0 < m
    · have hm' : (0 : Int) < (m : Int) := by omega
      have e2 : b_law_draws_1 [.dat a, .dat b, .dat c, .own (L.map nat), .dat d4, .dat (nat m), z6, .dat x] = .nx [.dat a, .dat b, .dat c, .own ((L ++ [m % 10000]).map nat), .dat d4, .dat (nat (m / 10000)), z6, .dat x] := by
        unfold b_law_draws_1
        simp only [mVar, mC, mMap, mMap2, lift_some, lift_none, bind_ok, bind_err, bind_bad, mCons, mNil, mT, asB_bool, asB, mAnd, mOr, mNot, andV_eq, orV_eq, mNotV, mIf, chain_eq, chK_b, mCall, sSeq, sNext, sIf, sRet, sRetN, sDrop, sAsg, sRaise, sFor, sApp, sOwn, setO, ownAt, mOwn1, mPop0, sFrz, frz, sAug, ex_ok, ex_err, ex_bad, then_nx, then_ret, then_brk, then_ct, then_err, optG_some, optG_none, tName, setD, tTupG, tsCons, tsNil, Option.bind_some, List.getElem?_cons_zero, List.getElem?_cons_succ, List.set_cons_zero, List.set_cons_succ, List.length_cons, List.length_nil, Bool.not_true, Bool.not_false, Bool.false_eq_true, if_true, if_false, reduceIte, List.map_cons, List.map_nil, List.cons_append, List.nil_append, List.replicate, Nat.reduceSub, Nat.reduceAdd, Nat.reduceEqDiff, Option.map_some, Option.map_none, outs, Int.reduceAdd, Int.reduceSub, Int.reduceBEq, Int.reduceLT, Int.reduceLE, decide_true, decide_false, beq_self_eq_true, cast_0, cast_1, cast_2, cast_3, cast_4, cast_5, isi_str, isi_tup, addD_i, addI_i, subD_i, leD_i, leD_s, ltD_i, ltD_s, gtD_i, geD_i, eqD_i, neD_i, eqD_b, neD_b, eqD_s, lenD_l, lenD_t, absD_i, intD_i, tupD_l, tupD_t, lstD_l, lstD_t, mkT_0, mkT_1, mkT_2, mkT_3, mkL_0, mkL_1, sized_0, sized_1, ix_0, ix_1, ix_2, isT_t, isT_s, isT_l, isT_i, isT_n, isS_s, isS_t, isS_l, isS_i, isS_n, neD_s, Kd.inj, Mk.inj, Lk.inj, s_km, s_mk, List.length_append, L_c, L_i, L_n, L_a, L_cc, L_ic, L_ii, L_nc, L_ni, L_nn, L_ac, L_ai, L_an, L_aa, q1, q2, hm']
        rw [if_pos hs]
        simp only [mVar, mC, mMap, mMap2, lift_some, lift_none, bind_ok, bind_err, bind_bad, mCons, mNil, mT, asB_bool, asB, mAnd, mOr, mNot, andV_eq, orV_eq, mNotV, mIf, chain_eq, chK_b, mCall, sSeq, sNext, sIf, sRet, sRetN, sDrop, sAsg, sRaise, sFor, sApp, sOwn, setO, ownAt, mOwn1, mPop0, sFrz, frz, sAug, ex_ok, ex_err, ex_bad, then_nx, then_ret, then_brk, then_ct, then_err, optG_some, optG_none, tName, setD, tTupG, tsCons, tsNil, Option.bind_some, List.getElem?_cons_zero, List.getElem?_cons_succ, List.set_cons_zero, List.set_cons_succ, List.length_cons, List.length_nil, Bool.not_true, Bool.not_false, Bool.false_eq_true, if_true, if_false, reduceIte, List.map_cons, List.map_nil, List.cons_append, List.nil_append, List.replicate, Nat.reduceSub, Nat.reduceAdd, Nat.reduceEqDiff, Option.map_some, Option.map_none, outs, Int.reduceAdd, Int.reduceSub, Int.reduceBEq, Int.reduceLT, Int.reduceLE, decide_true, decide_false, beq_self_eq_true, cast_0, cast_1, cast_2, cast_3, cast_4, cast_5, isi_str, isi_tup, addD_i, addI_i, subD_i, leD_i, leD_s, ltD_i, ltD_s, gtD_i, geD_i, eqD_i, neD_i, eqD_b, neD_b, eqD_s, lenD_l, lenD_t, absD_i, intD_i, tupD_l, tupD_t, lstD_l, lstD_t, mkT_0, mkT_1, mkT_2, mkT_3, mkL_0, mkL_1, sized_0, sized_1, ix_0, ix_1, ix_2, isT_t, isT_s, isT_l, isT_i, isT_n, isS_s, isS_t, isS_l, isS_i, isS_n, neD_s, Kd.inj, Mk.inj, Lk.inj, s_km, s_mk, List.length_append, L_c, L_i, L_n, L_a, L_cc, L_ic, L_ii, L_nc, L_ni, L_nn, L_ac, L_ai, L_an, L_aa, q1, List.map_append]
      obtain ⟨L', m', z', h1, h2, h3⟩ := dr1 r (L ++ [m % 10000]) (m / 10000) (.dat x) trivial (by rw [List.length_append, List.length_cons, List.length_nil]; omega)
      refine ⟨L', m', z', h1, by rw [List.length_append, List.length_cons, List.length_nil] at h2; rw [List.length_cons]; omega, ?_⟩
      rw [for_nx e1 e2, h3]
    · have hm' : ¬ (0 : Int) < (m : Int) := by omega
      have e2 : b_law_draws_1 [.dat a, .dat b, .dat c, .own (L.map nat), .dat d4, .dat (nat m), z6, .dat x] = .nx [.dat a, .dat b, .dat c, .own (L.map nat), .dat d4, .dat (nat (m / 10000)), z6, .dat x] := by
        unfold b_law_draws_1
        simp only [mVar, mC, mMap, mMap2, lift_some, lift_none, bind_ok, bind_err, bind_bad, mCons, mNil, mT, asB_bool, asB, mAnd, mOr, mNot, andV_eq, orV_eq, mNotV, mIf, chain_eq, chK_b, mCall, sSeq, sNext, sIf, sRet, sRetN, sDrop, sAsg, sRaise, sFor, sApp, sOwn, setO, ownAt, mOwn1, mPop0, sFrz, frz, sAug, ex_ok, ex_err, ex_bad, then_nx, then_ret, then_brk, then_ct, then_err, optG_some, optG_none, tName, setD, tTupG, tsCons, tsNil, Option.bind_some, List.getElem?_cons_zero, List.getElem?_cons_succ, List.set_cons_zero, List.set_cons_succ, List.length_cons, List.length_nil, Bool.not_true, Bool.not_false, Bool.false_eq_true, if_true, if_false, reduceIte, List.map_cons, List.map_nil, List.cons_append, List.nil_append, List.replicate, Nat.reduceSub, Nat.reduceAdd, Nat.reduceEqDiff, Option.map_some, Option.map_none, outs, Int.reduceAdd, Int.reduceSub, Int.reduceBEq, Int.reduceLT, Int.reduceLE, decide_true, decide_false, beq_self_eq_true, cast_0, cast_1, cast_2, cast_3, cast_4, cast_5, isi_str, isi_tup, addD_i, addI_i, subD_i, leD_i, leD_s, ltD_i, ltD_s, gtD_i, geD_i, eqD_i, neD_i, eqD_b, neD_b, eqD_s, lenD_l, lenD_t, absD_i, intD_i, tupD_l, tupD_t, lstD_l, lstD_t, mkT_0, mkT_1, mkT_2, mkT_3, mkL_0, mkL_1, sized_0, sized_1, ix_0, ix_1, ix_2, isT_t, isT_s, isT_l, isT_i, isT_n, isS_s, isS_t, isS_l, isS_i, isS_n, neD_s, Kd.inj, Mk.inj, Lk.inj, s_km, s_mk, List.length_append, L_c, L_i, L_n, L_a, L_cc, L_ic, L_ii, L_nc, L_ni, L_nn, L_ac, L_ai, L_an, L_aa, q1, q2, hm']
      obtain ⟨L', m', z', h1, h2, h3⟩ := dr1 r L (m / 10000) (.dat x) trivial (by omega)
      refine ⟨L', m', z', h1, by rw [List.length_cons]; omega, ?_⟩
      rw [for_nx e1 e2, h3]
theorem abs_nat (i : Int) : (if i < 0 then -i else i) = (i.natAbs : Int) := by
  split <;> omega
theorem dr2 {a b c : D} {i : Int} {L : List Nat} {z5 z6 z7 : Sl} (h5 : NO z5) (h6 : NO z6) (h7 : NO z7) (hl : L.length ≤ 5000) :
    ∃ (L' : List Nat) (z5' z6' z7' : Sl), NO z5' ∧ NO z6' ∧ NO z7' ∧ L'.length ≤ L.length + 20 ∧ b_law_draws_2 [.dat a, .dat b, .dat c, .own (L.map nat), .dat (.int i), z5, z6, z7] = .nx [.dat a, .dat b, .dat c, .own (L'.map nat), .dat (.int i), z5', z6', z7'] := by
  have hs : (L.map nat).length < sizeLine := by
    rw [List.length_map]
    exact Nat.lt_of_lt_of_le (by omega : L.length < 10001) (small_line (by decide))
  have ab0 := abs_nat i
  generalize i.natAbs = n at ab0
  have ab : absD [.int i] = some (nat n) := by rw [absD_i, ab0]
  by_cases hb : n < 1000000000000000000
  · have hb' : (n : Int) < 1000000000000000000 := by omega
    have m1 : mulD (nat n) (.int 48271) = some (.int ((n : Int) * 48271)) := mulD_k (by omega)
    have m2 : modD (.int ((n : Int) * 48271 + 11)) (.int 2147483647) = some (.int (((n : Int) * 48271 + 11) % 2147483647)) := modD_k (by omega)
    obtain ⟨x, hx⟩ := nn (i := ((n : Int) * 48271 + 11) % 2147483647) (by omega)
    rw [hx] at m2
    have m3 : mulD (nat x) (.int 16807) = some (.int ((x : Int) * 16807)) := mulD_k (by omega)
    have m4 : mulD (nat x) (.int 69621) = some (.int ((x : Int) * 69621)) := mulD_k (by omega)
    have d1 : fdivD (nat n) (.int 9) = some (nat (n / 9)) := by rw [fdivD_k (by omega)]; rfl
    have d2 : fdivD (nat n) (.int 5) = some (nat (n / 5)) := by rw [fdivD_k (by omega)]; rfl
    obtain ⟨y1, hy1⟩ := nn (i := ((x : Int) * 16807 + ((n / 9 : Nat) : Int) + 3) % 2147483647 / 7) (by omega)
    obtain ⟨y2, hy2⟩ := nn (i := ((x : Int) * 69621 + ((n / 5 : Nat) : Int) + 7) % 2147483647 / 11) (by omega)
    have m5 : modD (.int ((x : Int) * 16807 + ((n / 9 : Nat) : Int) + 3)) (.int 2147483647) = some (.int (((x : Int) * 16807 + ((n / 9 : Nat) : Int) + 3) % 2147483647)) := modD_k (by omega)
    have m6 : modD (.int ((x : Int) * 69621 + ((n / 5 : Nat) : Int) + 7)) (.int 2147483647) = some (.int (((x : Int) * 69621 + ((n / 5 : Nat) : Int) + 7) % 2147483647)) := modD_k (by omega)
    have d3 : fdivD (.int (((x : Int) * 16807 + ((n / 9 : Nat) : Int) + 3) % 2147483647)) (.int 7) = some (nat y1) := by rw [fdivD_k (by omega), hy1]
    have d4 : fdivD (.int (((x : Int) * 69621 + ((n / 5 : Nat) : Int) + 7) % 2147483647)) (.int 11) = some (nat y2) := by rw [fdivD_k (by omega), hy2]
    have hs2 : (L.map nat).length + 1 < sizeLine := by
      rw [List.length_map]
      exact Nat.lt_of_lt_of_le (by omega : L.length + 1 < 10001) (small_line (by decide))
    have hs3 : (L.map nat).length + 1 + 1 < sizeLine := by
      rw [List.length_map]
      exact Nat.lt_of_lt_of_le (by omega : L.length + 1 + 1 < 10001) (small_line (by decide))
    have fin : ∀ z5 z6 : Sl, (∃ v, z5 = .un ∨ z5 = .dat v) → (∃ v, z6 = .un ∨ z6 = .dat v) → b_law_draws_2 [.dat a, .dat b, .dat c, .own (L.map nat), .dat (.int i), z5, z6, z7] = .nx [.dat a, .dat b, .dat c, .own ((L ++ [n] ++ [y1] ++ [y2]).map nat), .dat (.int i), .dat (nat n), .dat (nat x), z7] := by
      intro z5 z6 h5 h6
      obtain ⟨v5, e5⟩ := h5
      obtain ⟨v6, e6⟩ := h6
      have le : (L ++ [n] ++ [y1] ++ [y2]).map nat = L.map nat ++ [nat n] ++ [nat y1] ++ [nat y2] := by rw [List.map_append, List.map_append, List.map_append]; rfl
      rw [le]
      rcases e5 with rfl | rfl <;> rcases e6 with rfl | rfl <;> (unfold b_law_draws_2; simp only [mVar, mC, mMap, mMap2, lift_some, lift_none, bind_ok, bind_err, bind_bad, mCons, mNil, mT, asB_bool, asB, mAnd, mOr, mNot, andV_eq, orV_eq, mNotV, mIf, chain_eq, chK_b, mCall, sSeq, sNext, sIf, sRet, sRetN, sDrop, sAsg, sRaise, sFor, sApp, sOwn, setO, ownAt, mOwn1, mPop0, sFrz, frz, sAug, ex_ok, ex_err, ex_bad, then_nx, then_ret, then_brk, then_ct, then_err, optG_some, optG_none, tName, setD, tTupG, tsCons, tsNil, Option.bind_some, List.getElem?_cons_zero, List.getElem?_cons_succ, List.set_cons_zero, List.set_cons_succ, List.length_cons, List.length_nil, Bool.not_true, Bool.not_false, Bool.false_eq_true, if_true, if_false, reduceIte, List.map_cons, List.map_nil, List.cons_append, List.nil_append, List.replicate, Nat.reduceSub, Nat.reduceAdd, Nat.reduceEqDiff, Option.map_some, Option.map_none, outs, Int.reduceAdd, Int.reduceSub, Int.reduceBEq, Int.reduceLT, Int.reduceLE, decide_true, decide_false, beq_self_eq_true, cast_0, cast_1, cast_2, cast_3, cast_4, cast_5, isi_str, isi_tup, addD_i, addI_i, subD_i, leD_i, leD_s, ltD_i, ltD_s, gtD_i, geD_i, eqD_i, neD_i, eqD_b, neD_b, eqD_s, lenD_l, lenD_t, absD_i, intD_i, tupD_l, tupD_t, lstD_l, lstD_t, mkT_0, mkT_1, mkT_2, mkT_3, mkL_0, mkL_1, sized_0, sized_1, ix_0, ix_1, ix_2, isT_t, isT_s, isT_l, isT_i, isT_n, isS_s, isS_t, isS_l, isS_i, isS_n, neD_s, Kd.inj, Mk.inj, Lk.inj, s_km, s_mk, List.length_append, L_c, L_i, L_n, L_a, L_cc, L_ic, L_ii, L_nc, L_ni, L_nn, L_ac, L_ai, L_an, L_aa, ab, pow18, hb', m1, m2, hs, hs2, hs3, m3, m4, m5, m6, d1, d2, d3, d4])
    refine ⟨L ++ [n] ++ [y1] ++ [y2], .dat (nat n), .dat (nat x), z7, trivial, trivial, h7, by rw [List.length_append, List.length_append, List.length_append, List.length_cons, List.length_nil, List.length_cons, List.length_nil, List.length_cons, List.length_nil]; omega, fin z5 z6 ?_ ?_⟩
    · cases z5 with
      | un => exact ⟨.none, .inl rfl⟩
      | dat v => exact ⟨v, .inr rfl⟩
      | own _ => exact h5.elim
    · cases z6 with
      | un => exact ⟨.none, .inl rfl⟩
      | dat v => exact ⟨v, .inr rfl⟩
      | own _ => exact h6.elim
  · have hb' : ¬ (n : Int) < 1000000000000000000 := by omega
    have hr : rng1 [.int 20] = some (upto 0 20) := rng1_i (by omega)
    have hu : (upto 0 20).length = 20 := upto_len 0 20
    obtain ⟨L', m', z', q1, q2, q3⟩ := dr1 (a := a) (b := b) (c := c) (d4 := .int i) (z6 := z6) (upto 0 20) L n z7 h7 (by rw [hu]; omega)
    rw [hu] at q2
    refine ⟨L', .dat (nat m'), z6, z', trivial, h6, q1, q2, ?_⟩
    generalize upto 0 20 = us at hr q3
    have fin : ∀ z5 : Sl, (∃ v, z5 = .un ∨ z5 = .dat v) → b_law_draws_2 [.dat a, .dat b, .dat c, .own (L.map nat), .dat (.int i), z5, z6, z7] = .nx [.dat a, .dat b, .dat c, .own (L'.map nat), .dat (.int i), .dat (nat m'), z6, z'] := by
      intro z5 h5
      obtain ⟨v5, e5⟩ := h5
      rcases e5 with rfl | rfl <;> (unfold b_law_draws_2; simp only [mVar, mC, mMap, mMap2, lift_some, lift_none, bind_ok, bind_err, bind_bad, mCons, mNil, mT, asB_bool, asB, mAnd, mOr, mNot, andV_eq, orV_eq, mNotV, mIf, chain_eq, chK_b, mCall, sSeq, sNext, sIf, sRet, sRetN, sDrop, sAsg, sRaise, sFor, sApp, sOwn, setO, ownAt, mOwn1, mPop0, sFrz, frz, sAug, ex_ok, ex_err, ex_bad, then_nx, then_ret, then_brk, then_ct, then_err, optG_some, optG_none, tName, setD, tTupG, tsCons, tsNil, Option.bind_some, List.getElem?_cons_zero, List.getElem?_cons_succ, List.set_cons_zero, List.set_cons_succ, List.length_cons, List.length_nil, Bool.not_true, Bool.not_false, Bool.false_eq_true, if_true, if_false, reduceIte, List.map_cons, List.map_nil, List.cons_append, List.nil_append, List.replicate, Nat.reduceSub, Nat.reduceAdd, Nat.reduceEqDiff, Option.map_some, Option.map_none, outs, Int.reduceAdd, Int.reduceSub, Int.reduceBEq, Int.reduceLT, Int.reduceLE, decide_true, decide_false, beq_self_eq_true, cast_0, cast_1, cast_2, cast_3, cast_4, cast_5, isi_str, isi_tup, addD_i, addI_i, subD_i, leD_i, leD_s, ltD_i, ltD_s, gtD_i, geD_i, eqD_i, neD_i, eqD_b, neD_b, eqD_s, lenD_l, lenD_t, absD_i, intD_i, tupD_l, tupD_t, lstD_l, lstD_t, mkT_0, mkT_1, mkT_2, mkT_3, mkL_0, mkL_1, sized_0, sized_1, ix_0, ix_1, ix_2, isT_t, isT_s, isT_l, isT_i, isT_n, isS_s, isS_t, isS_l, isS_i, isS_n, neD_s, Kd.inj, Mk.inj, Lk.inj, s_km, s_mk, List.length_append, L_c, L_i, L_n, L_a, L_cc, L_ic, L_ii, L_nc, L_ni, L_nn, L_ac, L_ai, L_an, L_aa, ab, pow18, hb', hr]; exact q3)
    refine fin z5 ?_
    cases z5 with
    | un => exact ⟨.none, .inl rfl⟩
    | dat v => exact ⟨v, .inr rfl⟩
    | own _ => exact h5.elim
theorem dr3 {a b c : D} : ∀ (ns : List Int) (L : List Nat) (z4 z5 z6 z7 : Sl), NO z4 → NO z5 → NO z6 → NO z7 → L.length + 20 * ns.length ≤ 5000 →
    ∃ (L' : List Nat) (z4' z5' z6' z7' : Sl), L'.length ≤ L.length + 20 * ns.length ∧ forG (tName 4) b_law_draws_2 (ns.map .int) [.dat a, .dat b, .dat c, .own (L.map nat), z4, z5, z6, z7] = .nx [.dat a, .dat b, .dat c, .own (L'.map nat), z4', z5', z6', z7']
  | [], L, z4, z5, z6, z7, _, _, _, _, _ => ⟨L, z4, z5, z6, z7, Nat.le_add_right _ _, rfl⟩
  | i :: r, L, z4, z5, z6, z7, h4, h5, h6, h7, hl => by
    rw [List.length_cons] at hl
    have e1 : tName 4 (.int i) [.dat a, .dat b, .dat c, .own (L.map nat), z4, z5, z6, z7] = some [.dat a, .dat b, .dat c, .own (L.map nat), .dat (.int i), z5, z6, z7] := by cases z4 <;> first | rfl | exact h4.elim
    obtain ⟨L1, y5, y6, y7, k5, k6, k7, kl, e2⟩ := dr2 (a := a) (b := b) (c := c) (i := i) (L := L) h5 h6 h7 (by omega)
    obtain ⟨L', x4, x5, x6, x7, ql, q⟩ := dr3 r L1 (.dat (.int i)) y5 y6 y7 trivial k5 k6 k7 (by omega)
    refine ⟨L', x4, x5, x6, x7, by rw [List.length_cons]; omega, ?_⟩
    rw [List.map_cons, for_nx e1 e2, q]
theorem draws_eq (M : Nat) {ns : List Int} (h : ns.length ≤ 63) : ∃ L : List Nat, F_law_draws [.dat (.list (ns.map .int)), .dat (.int 0), .dat (nat M)] = .ok (L.map nat) [.dat (.list (ns.map .int)), .dat (.int 0), .dat (nat M)] := by
  obtain ⟨L, z4, z5, z6, z7, ql, q⟩ := dr3 (a := .list (ns.map .int)) (b := .int 0) (c := nat M) ns [] .un .un .un .un trivial trivial trivial trivial (by rw [List.length_nil]; omega)
  refine ⟨L.take (min M L.length), ?_⟩
  have e1 : slD (.list (ns.map .int)) (some 0) none = some (.list (ns.map .int)) := by
    show some (PyData.list (cutD (ns.map .int) (some 0) none)) = _
    rw [cutD_all ⟨rfl, rfl⟩]
  have e2 : items (.list (ns.map PyData.int)) = some (ns.map .int) := rfl
  have e3 : cutD (L.map nat) none (some (M : Int)) = (L.take (min M L.length)).map nat := by
    rw [cut_to, List.map_take]
    conv => rhs; rw [← List.length_map (f := nat) (as := L)]
    rw [← List.take_take, List.take_length]
  have hg : g_law_draws [.dat (.list (ns.map .int)), .dat (.int 0), .dat (nat M), .un, .un, .un, .un, .un] = .ok ((L.take (min M L.length)).map nat) [.dat (.list (ns.map .int)), .dat (.int 0), .dat (nat M), .own (L.map nat), z4, z5, z6, z7] := by
    unfold g_law_draws lSeq mSl mSlF mPart
    simp only [mVar, mC, mMap, mMap2, lift_some, lift_none, bind_ok, bind_err, bind_bad, mCons, mNil, mT, asB_bool, asB, mAnd, mOr, mNot, andV_eq, orV_eq, mNotV, mIf, chain_eq, chK_b, mCall, sSeq, sNext, sIf, sRet, sRetN, sDrop, sAsg, sRaise, sFor, sApp, sOwn, setO, ownAt, mOwn1, mPop0, sFrz, frz, sAug, ex_ok, ex_err, ex_bad, then_nx, then_ret, then_brk, then_ct, then_err, optG_some, optG_none, tName, setD, tTupG, tsCons, tsNil, Option.bind_some, List.getElem?_cons_zero, List.getElem?_cons_succ, List.set_cons_zero, List.set_cons_succ, List.length_cons, List.length_nil, Bool.not_true, Bool.not_false, Bool.false_eq_true, if_true, if_false, reduceIte, List.map_cons, List.map_nil, List.cons_append, List.nil_append, List.replicate, Nat.reduceSub, Nat.reduceAdd, Nat.reduceEqDiff, Option.map_some, Option.map_none, outs, Int.reduceAdd, Int.reduceSub, Int.reduceBEq, Int.reduceLT, Int.reduceLE, decide_true, decide_false, beq_self_eq_true, cast_0, cast_1, cast_2, cast_3, cast_4, cast_5, isi_str, isi_tup, addD_i, addI_i, subD_i, leD_i, leD_s, ltD_i, ltD_s, gtD_i, geD_i, eqD_i, neD_i, eqD_b, neD_b, eqD_s, lenD_l, lenD_t, absD_i, intD_i, tupD_l, tupD_t, lstD_l, lstD_t, mkT_0, mkT_1, mkT_2, mkT_3, mkL_0, mkL_1, sized_0, sized_1, ix_0, ix_1, ix_2, isT_t, isT_s, isT_l, isT_i, isT_n, isS_s, isS_t, isS_l, isS_i, isS_n, neD_s, Kd.inj, Mk.inj, Lk.inj, s_km, s_mk, List.length_append, L_c, L_i, L_n, L_a, L_cc, L_ic, L_ii, L_nc, L_ni, L_nn, L_ac, L_ai, L_an, L_aa, e1, e2]
    rw [show ([] : List D) = ([] : List Nat).map nat from rfl, q]
    simp only [mVar, mC, mMap, mMap2, lift_some, lift_none, bind_ok, bind_err, bind_bad, mCons, mNil, mT, asB_bool, asB, mAnd, mOr, mNot, andV_eq, orV_eq, mNotV, mIf, chain_eq, chK_b, mCall, sSeq, sNext, sIf, sRet, sRetN, sDrop, sAsg, sRaise, sFor, sApp, sOwn, setO, ownAt, mOwn1, mPop0, sFrz, frz, sAug, ex_ok, ex_err, ex_bad, then_nx, then_ret, then_brk, then_ct, then_err, optG_some, optG_none, tName, setD, tTupG, tsCons, tsNil, Option.bind_some, List.getElem?_cons_zero, List.getElem?_cons_succ, List.set_cons_zero, List.set_cons_succ, List.length_cons, List.length_nil, Bool.not_true, Bool.not_false, Bool.false_eq_true, if_true, if_false, reduceIte, List.map_cons, List.map_nil, List.cons_append, List.nil_append, List.replicate, Nat.reduceSub, Nat.reduceAdd, Nat.reduceEqDiff, Option.map_some, Option.map_none, outs, Int.reduceAdd, Int.reduceSub, Int.reduceBEq, Int.reduceLT, Int.reduceLE, decide_true, decide_false, beq_self_eq_true, cast_0, cast_1, cast_2, cast_3, cast_4, cast_5, isi_str, isi_tup, addD_i, addI_i, subD_i, leD_i, leD_s, ltD_i, ltD_s, gtD_i, geD_i, eqD_i, neD_i, eqD_b, neD_b, eqD_s, lenD_l, lenD_t, absD_i, intD_i, tupD_l, tupD_t, lstD_l, lstD_t, mkT_0, mkT_1, mkT_2, mkT_3, mkL_0, mkL_1, sized_0, sized_1, ix_0, ix_1, ix_2, isT_t, isT_s, isT_l, isT_i, isT_n, isS_s, isS_t, isS_l, isS_i, isS_n, neD_s, Kd.inj, Mk.inj, Lk.inj, s_km, s_mk, List.length_append, L_c, L_i, L_n, L_a, L_cc, L_ic, L_ii, L_nc, L_ni, L_nn, L_ac, L_ai, L_an, L_aa, e3]
  unfold F_law_draws runL
  rw [show ([.dat (.list (ns.map .int)), .dat (.int 0), .dat (nat M)] ++ List.replicate (8 - [Sl.dat (.list (ns.map .int)), .dat (.int 0), .dat (nat M)].length) .un : Sts) = [.dat (.list (ns.map .int)), .dat (.int 0), .dat (nat M), .un, .un, .un, .un, .un] from rfl, hg]
  rfl
theorem next_eq (L : List Nat) : F_law_next [.own (L.map nat)] = .ok (nat (L.headD 0)) [.own (L.tail.map nat)] := by
  cases L with
  | nil =>
    refine run_ret (st := [.own []]) (s := [.own []]) ?_
    unfold g_law_next
    simp only [mVar, mC, mMap, mMap2, lift_some, lift_none, bind_ok, bind_err, bind_bad, mCons, mNil, mT, asB_bool, asB, mAnd, mOr, mNot, andV_eq, orV_eq, mNotV, mIf, chain_eq, chK_b, mCall, sSeq, sNext, sIf, sRet, sRetN, sDrop, sAsg, sRaise, sFor, sApp, sOwn, setO, ownAt, mOwn1, mPop0, sFrz, frz, sAug, ex_ok, ex_err, ex_bad, then_nx, then_ret, then_brk, then_ct, then_err, optG_some, optG_none, tName, setD, tTupG, tsCons, tsNil, Option.bind_some, List.getElem?_cons_zero, List.getElem?_cons_succ, List.set_cons_zero, List.set_cons_succ, List.length_cons, List.length_nil, Bool.not_true, Bool.not_false, Bool.false_eq_true, if_true, if_false, reduceIte, List.map_cons, List.map_nil, List.cons_append, List.nil_append, List.replicate, Nat.reduceSub, Nat.reduceAdd, Nat.reduceEqDiff, Option.map_some, Option.map_none, outs, Int.reduceAdd, Int.reduceSub, Int.reduceBEq, Int.reduceLT, Int.reduceLE, decide_true, decide_false, beq_self_eq_true, cast_0, cast_1, cast_2, cast_3, cast_4, cast_5, isi_str, isi_tup, addD_i, addI_i, subD_i, leD_i, leD_s, ltD_i, ltD_s, gtD_i, geD_i, eqD_i, neD_i, eqD_b, neD_b, eqD_s, lenD_l, lenD_t, absD_i, intD_i, tupD_l, tupD_t, lstD_l, lstD_t, mkT_0, mkT_1, mkT_2, mkT_3, mkL_0, mkL_1, sized_0, sized_1, ix_0, ix_1, ix_2, isT_t, isT_s, isT_l, isT_i, isT_n, isS_s, isS_t, isS_l, isS_i, isS_n, neD_s, Kd.inj, Mk.inj, Lk.inj, s_km, s_mk, List.length_append, L_c, L_i, L_n, L_a, L_cc, L_ic, L_ii, L_nc, L_ni, L_nn, L_ac, L_ai, L_an, L_aa]
    rfl
  | cons m r =>
    refine run_ret (st := [.own ((m :: r).map nat)]) (s := [.own (r.map nat)]) ?_
    unfold g_law_next
    have h0 : ((((r.map nat).length + 1 : Nat) : Int) == 0) = false := by
      rw [beq_eq_false_iff_ne]
      omega
    simp only [mVar, mC, mMap, mMap2, lift_some, lift_none, bind_ok, bind_err, bind_bad, mCons, mNil, mT, asB_bool, asB, mAnd, mOr, mNot, andV_eq, orV_eq, mNotV, mIf, chain_eq, chK_b, mCall, sSeq, sNext, sIf, sRet, sRetN, sDrop, sAsg, sRaise, sFor, sApp, sOwn, setO, ownAt, mOwn1, mPop0, sFrz, frz, sAug, ex_ok, ex_err, ex_bad, then_nx, then_ret, then_brk, then_ct, then_err, optG_some, optG_none, tName, setD, tTupG, tsCons, tsNil, Option.bind_some, List.getElem?_cons_zero, List.getElem?_cons_succ, List.set_cons_zero, List.set_cons_succ, List.length_cons, List.length_nil, Bool.not_true, Bool.not_false, Bool.false_eq_true, if_true, if_false, reduceIte, List.map_cons, List.map_nil, List.cons_append, List.nil_append, List.replicate, Nat.reduceSub, Nat.reduceAdd, Nat.reduceEqDiff, Option.map_some, Option.map_none, outs, Int.reduceAdd, Int.reduceSub, Int.reduceBEq, Int.reduceLT, Int.reduceLE, decide_true, decide_false, beq_self_eq_true, cast_0, cast_1, cast_2, cast_3, cast_4, cast_5, isi_str, isi_tup, addD_i, addI_i, subD_i, leD_i, leD_s, ltD_i, ltD_s, gtD_i, geD_i, eqD_i, neD_i, eqD_b, neD_b, eqD_s, lenD_l, lenD_t, absD_i, intD_i, tupD_l, tupD_t, lstD_l, lstD_t, mkT_0, mkT_1, mkT_2, mkT_3, mkL_0, mkL_1, sized_0, sized_1, ix_0, ix_1, ix_2, isT_t, isT_s, isT_l, isT_i, isT_n, isS_s, isS_t, isS_l, isS_i, isS_n, neD_s, Kd.inj, Mk.inj, Lk.inj, s_km, s_mk, List.length_append, L_c, L_i, L_n, L_a, L_cc, L_ic, L_ii, L_nc, L_ni, L_nn, L_ac, L_ai, L_an, L_aa, h0]
    rfl
theorem ix_typed {α : Type} (f : α → D) (xs : List α) {m : Nat} (hm : xs.length = m) (h0 : 0 < m) (n : Nat) : ∃ x, x ∈ xs ∧ ixD (.list (xs.map f)) (nat (n % m)) = some (f x) := by
  have h : n % m < xs.length := by rw [hm]; exact Nat.mod_lt _ h0
  exact ⟨xs[n % m], List.getElem_mem h, ixD_l (by rw [List.getElem?_map, List.getElem?_eq_getElem h]; rfl)⟩
theorem mod_nat (n m : Nat) (h : 0 < m) : modD (nat n) (.int (m : Int)) = some (nat (n % m)) := by
  rw [modD_k (by omega)]
  rfl
theorem div_nat (n m : Nat) (h : 0 < m ∧ m < 1073741824) : fdivD (nat n) (.int (m : Int)) = some (nat (n / m)) := by
  rw [fdivD_k (by omega)]
  rfl
/-! ### drawn parts and selectors -/
abbrev kindsL : List (Option Kd) := [none, none, some .a, some .b, some .c]
abbrev marksL : List (List Mk) := [[], [], [.x], [.y], [.x, .y]]
abbrev notsL : List (List Tst) := [[], [], [], [.kind .b], [.mark .x], [.kind .a, .mark .y]]
abbrev pairsL : List (Nat × Nat) := [(1, 0), (1, 0), (1, 0), (0, 1), (2, 1), (3, 2), (0, 2), (1, 2)]
def prD (q : Nat × Nat) : D := .tuple [nat q.1, nat q.2]
structure GP (p : Part) : Prop where
  k : p.k ∈ kindsL
  m : p.m ∈ marksL
  n : p.n ∈ notsL
  q : (p.s, p.f) ∈ pairsL
theorem mkL_100 {xs : List D} (h : xs.length ≤ 100) : mkL xs = some (.list xs) := mkL_s (small_line (by omega))
theorem mkT_100 {xs : List D} (h : xs.length ≤ 100) : mkT xs = some (.tuple xs) := mkT_s (small_line (by omega))
theorem law_part_eq (d : Nat) : ∃ p, GP p ∧ F_law_part [.dat (nat d)] = .ok (pD p) [.dat (nat d)] := by
  obtain ⟨k, hk, ek⟩ := ix_typed okD kindsL (m := 5) rfl (by decide) d
  obtain ⟨m, hm, em⟩ := ix_typed msD marksL (m := 5) rfl (by decide) (d / 5)
  obtain ⟨n, hn, en⟩ := ix_typed (fun n => PyData.tuple (n.map tD)) notsL (m := 6) rfl (by decide) (d / 25)
  obtain ⟨q, hq, eq⟩ := ix_typed prD pairsL (m := 8) rfl (by decide) (d / 150)
  refine ⟨⟨k, m, n, q.1, q.2⟩, ⟨hk, hm, hn, hq⟩, ?_⟩
  refine run_of (st := [.dat (nat d), .un, .un, .un, .un]) ⟨[.dat (nat d), .dat (okD k), .dat (msD m), .dat (.tuple (n.map tD)), .dat (prD q)], ?_, rfl⟩
  have m5 : modD (nat d) (.int 5) = some (nat (d % 5)) := mod_nat d 5 (by decide)
  have d5 : fdivD (nat d) (.int 5) = some (nat (d / 5)) := div_nat d 5 (by decide)
  have d25 : fdivD (nat d) (.int 25) = some (nat (d / 25)) := div_nat d 25 (by decide)
  have d150 : fdivD (nat d) (.int 150) = some (nat (d / 150)) := div_nat d 150 (by decide)
  have m55 : modD (nat (d / 5)) (.int 5) = some (nat (d / 5 % 5)) := mod_nat _ 5 (by decide)
  have m6 : modD (nat (d / 25)) (.int 6) = some (nat (d / 25 % 6)) := mod_nat _ 6 (by decide)
  have m8 : modD (nat (d / 150)) (.int 8) = some (nat (d / 150 % 8)) := mod_nat _ 8 (by decide)
  have ek : ixD (.list [.none, .none, .str "a", .str "b", .str "c"]) (nat (d % 5)) = some (okD k) := ek
  have em : ixD (.list [.tuple [], .tuple [], .tuple [.str "x"], .tuple [.str "y"], .tuple [.str "x", .str "y"]]) (nat (d / 5 % 5)) = some (msD m) := em
  have en : ixD (.list [.tuple [], .tuple [], .tuple [], .tuple [.tuple [.str "kind", .str "b"]], .tuple [.tuple [.str "mark", .str "x"]], .tuple [.tuple [.str "kind", .str "a"], .tuple [.str "mark", .str "y"]]]) (nat (d / 25 % 6)) = some (.tuple (n.map tD)) := en
  have eq : ixD (.list [.tuple [.int 1, .int 0], .tuple [.int 1, .int 0], .tuple [.int 1, .int 0], .tuple [.int 0, .int 1], .tuple [.int 2, .int 1], .tuple [.int 3, .int 2], .tuple [.int 0, .int 2], .tuple [.int 1, .int 2]]) (nat (d / 150 % 8)) = some (prD q) := eq
  have q0 : ixD (prD q) (.int 0) = some (nat q.1) := ix_0 _ _
  have q1 : ixD (prD q) (.int 1) = some (nat q.2) := ix_1 _ _ _
  unfold g_law_part
  simp only [mVar, mC, mMap, mMap2, lift_some, lift_none, bind_ok, bind_err, bind_bad, mCons, mNil, mT, asB_bool, asB, mAnd, mOr, mNot, andV_eq, orV_eq, mNotV, mIf, chain_eq, chK_b, mCall, sSeq, sNext, sIf, sRet, sRetN, sDrop, sAsg, sRaise, sFor, sApp, sOwn, setO, ownAt, mOwn1, mPop0, sFrz, frz, sAug, ex_ok, ex_err, ex_bad, then_nx, then_ret, then_brk, then_ct, then_err, optG_some, optG_none, tName, setD, tTupG, tsCons, tsNil, Option.bind_some, List.getElem?_cons_zero, List.getElem?_cons_succ, List.set_cons_zero, List.set_cons_succ, List.length_cons, List.length_nil, Bool.not_true, Bool.not_false, Bool.false_eq_true, if_true, if_false, reduceIte, List.map_cons, List.map_nil, List.cons_append, List.nil_append, List.replicate, Nat.reduceSub, Nat.reduceAdd, Nat.reduceEqDiff, Option.map_some, Option.map_none, outs, Int.reduceAdd, Int.reduceSub, Int.reduceBEq, Int.reduceLT, Int.reduceLE, decide_true, decide_false, beq_self_eq_true, cast_0, cast_1, cast_2, cast_3, cast_4, cast_5, isi_str, isi_tup, addD_i, addI_i, subD_i, leD_i, leD_s, ltD_i, ltD_s, gtD_i, geD_i, eqD_i, neD_i, eqD_b, neD_b, eqD_s, lenD_l, lenD_t, absD_i, intD_i, tupD_l, tupD_t, lstD_l, lstD_t, mkT_0, mkT_1, mkT_2, mkT_3, mkL_0, mkL_1, sized_0, sized_1, ix_0, ix_1, ix_2, isT_t, isT_s, isT_l, isT_i, isT_n, isS_s, isS_t, isS_l, isS_i, isS_n, neD_s, Kd.inj, Mk.inj, Lk.inj, s_km, s_mk, List.length_append, L_c, L_i, L_n, L_a, L_cc, L_ic, L_ii, L_nc, L_ni, L_nn, L_ac, L_ai, L_an, L_aa, mkL_100, mkT_100, Nat.reduceLeDiff, m5, d5, d25, d150, m55, m6, m8, ek, em, en, eq, q0, q1]
  rfl
theorem sel_for {most : D} : ∀ (ks : List D) (ps : List Part) (ls : List Lk) (L : List Nat) (z : Sl), NO z → ps.length + ks.length ≤ 100 → ls.length + ks.length ≤ 100 → (∀ p ∈ ps, GP p) →
    ∃ (ps' : List Part) (ls' : List Lk) (L' : List Nat) (z' : Sl), ps'.length = ps.length + ks.length ∧ ls'.length = ls.length + ks.length ∧ (∀ p ∈ ps', GP p) ∧ forG (tName 4) b_law_selector_1 ks [.own (L.map nat), .dat most, .own (ps.map pD), .own (ls.map lD), z] = .nx [.own (L'.map nat), .dat most, .own (ps'.map pD), .own (ls'.map lD), z']
  | [], ps, ls, L, z, _, _, _, h1 => ⟨ps, ls, L, z, rfl, rfl, h1, rfl⟩
  | x :: r, ps, ls, L, z, hz, hp, hl, h1 => by
    rw [List.length_cons] at hp hl
    obtain ⟨l, _, el⟩ := ix_typed lD [Lk.child, .inside, .next, .after] (m := 4) rfl (by decide) (L.headD 0)
    have el : ixD (.list [.str "child", .str "inside", .str "next", .str "after"]) (nat (L.headD 0 % 4)) = some (lD l) := el
    obtain ⟨p, hp', ep⟩ := law_part_eq (L.tail.headD 0)
    have m4 : modD (nat (L.headD 0)) (.int 4) = some (nat (L.headD 0 % 4)) := mod_nat _ 4 (by decide)
    have s1 : ps.length < sizeLine := Nat.lt_of_lt_of_le (by omega : ps.length < 10001) (small_line (by decide))
    have s2 : ls.length < sizeLine := Nat.lt_of_lt_of_le (by omega : ls.length < 10001) (small_line (by decide))
    have e2 : b_law_selector_1 [.own (L.map nat), .dat most, .own (ps.map pD), .own (ls.map lD), .dat x] = .nx [.own (L.tail.tail.map nat), .dat most, .own ((ps ++ [p]).map pD), .own ((ls ++ [l]).map lD), .dat x] := by
      unfold b_law_selector_1
      simp only [mVar, mC, mMap, mMap2, lift_some, lift_none, bind_ok, bind_err, bind_bad, mCons, mNil, mT, asB_bool, asB, mAnd, mOr, mNot, andV_eq, orV_eq, mNotV, mIf, chain_eq, chK_b, mCall, sSeq, sNext, sIf, sRet, sRetN, sDrop, sAsg, sRaise, sFor, sApp, sOwn, setO, ownAt, mOwn1, mPop0, sFrz, frz, sAug, ex_ok, ex_err, ex_bad, then_nx, then_ret, then_brk, then_ct, then_err, optG_some, optG_none, tName, setD, tTupG, tsCons, tsNil, Option.bind_some, List.getElem?_cons_zero, List.getElem?_cons_succ, List.set_cons_zero, List.set_cons_succ, List.length_cons, List.length_nil, Bool.not_true, Bool.not_false, Bool.false_eq_true, if_true, if_false, reduceIte, List.map_cons, List.map_nil, List.cons_append, List.nil_append, List.replicate, Nat.reduceSub, Nat.reduceAdd, Nat.reduceEqDiff, Option.map_some, Option.map_none, outs, Int.reduceAdd, Int.reduceSub, Int.reduceBEq, Int.reduceLT, Int.reduceLE, decide_true, decide_false, beq_self_eq_true, cast_0, cast_1, cast_2, cast_3, cast_4, cast_5, isi_str, isi_tup, addD_i, addI_i, subD_i, leD_i, leD_s, ltD_i, ltD_s, gtD_i, geD_i, eqD_i, neD_i, eqD_b, neD_b, eqD_s, lenD_l, lenD_t, absD_i, intD_i, tupD_l, tupD_t, lstD_l, lstD_t, mkT_0, mkT_1, mkT_2, mkT_3, mkL_0, mkL_1, sized_0, sized_1, ix_0, ix_1, ix_2, isT_t, isT_s, isT_l, isT_i, isT_n, isS_s, isS_t, isS_l, isS_i, isS_n, neD_s, Kd.inj, Mk.inj, Lk.inj, s_km, s_mk, List.length_append, L_c, L_i, L_n, L_a, L_cc, L_ic, L_ii, L_nc, L_ni, L_nn, L_ac, L_ai, L_an, L_aa, mCallO, next_eq, mkL_100, Nat.reduceLeDiff, m4, el, List.length_map, s1, s2, ep, List.map_append]
    obtain ⟨ps', ls', L', z', k1, k2, k3, k5⟩ := sel_for (most := most) r (ps ++ [p]) (ls ++ [l]) L.tail.tail (.dat x) trivial (by rw [List.length_append, List.length_cons, List.length_nil]; omega) (by rw [List.length_append, List.length_cons, List.length_nil]; omega)
      (fun q hq => by
        rcases List.mem_append.mp hq with hq | hq
        · exact h1 q hq
        · rw [List.mem_singleton.mp hq]; exact hp')
    rw [List.length_append, List.length_cons, List.length_nil] at k1 k2
    refine ⟨ps', ls', L', z', by rw [List.length_cons]; omega, by rw [List.length_cons]; omega, k3, ?_⟩
    rw [for_nx (set_no hz rfl) e2, k5]
/-- a drawn selector -/
structure GS (n : Nat) (s : Sel) : Prop where
  ll : s.ls.length + 1 = s.ps.length
  pl : s.ps.length ≤ n
  gp : ∀ p ∈ s.ps, GP p
theorem selector_eq (L : List Nat) {n : Nat} (h0 : 0 < n) (h5 : n ≤ 5) : ∃ (s : Sel) (L' : List Nat), GS n s ∧ F_law_selector [.own (L.map nat), .dat (nat n)] = .ok (sD s) [.own (L'.map nat), .dat (nat n)] := by
  obtain ⟨p, hp, ep⟩ := law_part_eq (L.headD 0)
  have m5 : modD (nat (L.tail.headD 0)) (nat n) = some (nat (L.tail.headD 0 % n)) := mod_nat _ n h0
  have hlt : L.tail.headD 0 % n < n := Nat.mod_lt _ h0
  generalize L.tail.headD 0 % n = c at m5 hlt
  have hr : rng1 [.int (c : Int)] = some (upto 0 c) := by rw [rng1_i (by omega), Int.toNat_natCast]
  obtain ⟨ps, ls, L', z', k1, k2, k3, k5⟩ := sel_for (most := nat n) (upto 0 c) [p] [] L.tail.tail .un trivial (by rw [upto_len, List.length_cons, List.length_nil]; omega) (by rw [upto_len, List.length_nil]; omega) (fun q hq => by rw [List.mem_singleton.mp hq]; exact hp)
  rw [upto_len, List.length_cons, List.length_nil] at k1
  rw [upto_len, List.length_nil] at k2
  refine ⟨⟨ps, ls⟩, L', ⟨by show ls.length + 1 = ps.length; omega, by show ps.length ≤ n; omega, k3⟩, ?_⟩
  refine run_ret (st := [.own (L.map nat), .dat (nat n), .un, .un, .un]) (s := [.own (L'.map nat), .dat (nat n), .own (ps.map pD), .own (ls.map lD), z']) ?_
  unfold g_law_selector
  refine (seq_nx (s1 := [.own (L.tail.map nat), .dat (nat n), .own [pD p], .un, .un]) ?_).trans ?_
  · simp only [mVar, mC, mMap, mMap2, lift_some, lift_none, bind_ok, bind_err, bind_bad, mCons, mNil, mT, asB_bool, asB, mAnd, mOr, mNot, andV_eq, orV_eq, mNotV, mIf, chain_eq, chK_b, mCall, sSeq, sNext, sIf, sRet, sRetN, sDrop, sAsg, sRaise, sFor, sApp, sOwn, setO, ownAt, mOwn1, mPop0, sFrz, frz, sAug, ex_ok, ex_err, ex_bad, then_nx, then_ret, then_brk, then_ct, then_err, optG_some, optG_none, tName, setD, tTupG, tsCons, tsNil, Option.bind_some, List.getElem?_cons_zero, List.getElem?_cons_succ, List.set_cons_zero, List.set_cons_succ, List.length_cons, List.length_nil, Bool.not_true, Bool.not_false, Bool.false_eq_true, if_true, if_false, reduceIte, List.map_cons, List.map_nil, List.cons_append, List.nil_append, List.replicate, Nat.reduceSub, Nat.reduceAdd, Nat.reduceEqDiff, Option.map_some, Option.map_none, outs, Int.reduceAdd, Int.reduceSub, Int.reduceBEq, Int.reduceLT, Int.reduceLE, decide_true, decide_false, beq_self_eq_true, cast_0, cast_1, cast_2, cast_3, cast_4, cast_5, isi_str, isi_tup, addD_i, addI_i, subD_i, leD_i, leD_s, ltD_i, ltD_s, gtD_i, geD_i, eqD_i, neD_i, eqD_b, neD_b, eqD_s, lenD_l, lenD_t, absD_i, intD_i, tupD_l, tupD_t, lstD_l, lstD_t, mkT_0, mkT_1, mkT_2, mkT_3, mkL_0, mkL_1, sized_0, sized_1, ix_0, ix_1, ix_2, isT_t, isT_s, isT_l, isT_i, isT_n, isS_s, isS_t, isS_l, isS_i, isS_n, neD_s, Kd.inj, Mk.inj, Lk.inj, s_km, s_mk, List.length_append, L_c, L_i, L_n, L_a, L_cc, L_ic, L_ii, L_nc, L_ni, L_nn, L_ac, L_ai, L_an, L_aa, mCallO, next_eq, ep]
  refine (seq_nx (s1 := [.own (L.tail.map nat), .dat (nat n), .own [pD p], .own [], .un]) ?_).trans ?_
  · simp only [mVar, mC, mMap, mMap2, lift_some, lift_none, bind_ok, bind_err, bind_bad, mCons, mNil, mT, asB_bool, asB, mAnd, mOr, mNot, andV_eq, orV_eq, mNotV, mIf, chain_eq, chK_b, mCall, sSeq, sNext, sIf, sRet, sRetN, sDrop, sAsg, sRaise, sFor, sApp, sOwn, setO, ownAt, mOwn1, mPop0, sFrz, frz, sAug, ex_ok, ex_err, ex_bad, then_nx, then_ret, then_brk, then_ct, then_err, optG_some, optG_none, tName, setD, tTupG, tsCons, tsNil, Option.bind_some, List.getElem?_cons_zero, List.getElem?_cons_succ, List.set_cons_zero, List.set_cons_succ, List.length_cons, List.length_nil, Bool.not_true, Bool.not_false, Bool.false_eq_true, if_true, if_false, reduceIte, List.map_cons, List.map_nil, List.cons_append, List.nil_append, List.replicate, Nat.reduceSub, Nat.reduceAdd, Nat.reduceEqDiff, Option.map_some, Option.map_none, outs, Int.reduceAdd, Int.reduceSub, Int.reduceBEq, Int.reduceLT, Int.reduceLE, decide_true, decide_false, beq_self_eq_true, cast_0, cast_1, cast_2, cast_3, cast_4, cast_5, isi_str, isi_tup, addD_i, addI_i, subD_i, leD_i, leD_s, ltD_i, ltD_s, gtD_i, geD_i, eqD_i, neD_i, eqD_b, neD_b, eqD_s, lenD_l, lenD_t, absD_i, intD_i, tupD_l, tupD_t, lstD_l, lstD_t, mkT_0, mkT_1, mkT_2, mkT_3, mkL_0, mkL_1, sized_0, sized_1, ix_0, ix_1, ix_2, isT_t, isT_s, isT_l, isT_i, isT_n, isS_s, isS_t, isS_l, isS_i, isS_n, neD_s, Kd.inj, Mk.inj, Lk.inj, s_km, s_mk, List.length_append, L_c, L_i, L_n, L_a, L_cc, L_ic, L_ii, L_nc, L_ni, L_nn, L_ac, L_ai, L_an, L_aa]
  refine (seq_nx (s1 := [.own (L'.map nat), .dat (nat n), .own (ps.map pD), .own (ls.map lD), z']) ?_).trans ?_
  · simp only [mVar, mC, mMap, mMap2, lift_some, lift_none, bind_ok, bind_err, bind_bad, mCons, mNil, mT, asB_bool, asB, mAnd, mOr, mNot, andV_eq, orV_eq, mNotV, mIf, chain_eq, chK_b, mCall, sSeq, sNext, sIf, sRet, sRetN, sDrop, sAsg, sRaise, sFor, sApp, sOwn, setO, ownAt, mOwn1, mPop0, sFrz, frz, sAug, ex_ok, ex_err, ex_bad, then_nx, then_ret, then_brk, then_ct, then_err, optG_some, optG_none, tName, setD, tTupG, tsCons, tsNil, Option.bind_some, List.getElem?_cons_zero, List.getElem?_cons_succ, List.set_cons_zero, List.set_cons_succ, List.length_cons, List.length_nil, Bool.not_true, Bool.not_false, Bool.false_eq_true, if_true, if_false, reduceIte, List.map_cons, List.map_nil, List.cons_append, List.nil_append, List.replicate, Nat.reduceSub, Nat.reduceAdd, Nat.reduceEqDiff, Option.map_some, Option.map_none, outs, Int.reduceAdd, Int.reduceSub, Int.reduceBEq, Int.reduceLT, Int.reduceLE, decide_true, decide_false, beq_self_eq_true, cast_0, cast_1, cast_2, cast_3, cast_4, cast_5, isi_str, isi_tup, addD_i, addI_i, subD_i, leD_i, leD_s, ltD_i, ltD_s, gtD_i, geD_i, eqD_i, neD_i, eqD_b, neD_b, eqD_s, lenD_l, lenD_t, absD_i, intD_i, tupD_l, tupD_t, lstD_l, lstD_t, mkT_0, mkT_1, mkT_2, mkT_3, mkL_0, mkL_1, sized_0, sized_1, ix_0, ix_1, ix_2, isT_t, isT_s, isT_l, isT_i, isT_n, isS_s, isS_t, isS_l, isS_i, isS_n, neD_s, Kd.inj, Mk.inj, Lk.inj, s_km, s_mk, List.length_append, L_c, L_i, L_n, L_a, L_cc, L_ic, L_ii, L_nc, L_ni, L_nn, L_ac, L_ai, L_an, L_aa, mCallO, next_eq, m5, hr]
    exact k5
  simp only [mVar, mC, mMap, mMap2, lift_some, lift_none, bind_ok, bind_err, bind_bad, mCons, mNil, mT, asB_bool, asB, mAnd, mOr, mNot, andV_eq, orV_eq, mNotV, mIf, chain_eq, chK_b, mCall, sSeq, sNext, sIf, sRet, sRetN, sDrop, sAsg, sRaise, sFor, sApp, sOwn, setO, ownAt, mOwn1, mPop0, sFrz, frz, sAug, ex_ok, ex_err, ex_bad, then_nx, then_ret, then_brk, then_ct, then_err, optG_some, optG_none, tName, setD, tTupG, tsCons, tsNil, Option.bind_some, List.getElem?_cons_zero, List.getElem?_cons_succ, List.set_cons_zero, List.set_cons_succ, List.length_cons, List.length_nil, Bool.not_true, Bool.not_false, Bool.false_eq_true, if_true, if_false, reduceIte, List.map_cons, List.map_nil, List.cons_append, List.nil_append, List.replicate, Nat.reduceSub, Nat.reduceAdd, Nat.reduceEqDiff, Option.map_some, Option.map_none, outs, Int.reduceAdd, Int.reduceSub, Int.reduceBEq, Int.reduceLT, Int.reduceLE, decide_true, decide_false, beq_self_eq_true, cast_0, cast_1, cast_2, cast_3, cast_4, cast_5, isi_str, isi_tup, addD_i, addI_i, subD_i, leD_i, leD_s, ltD_i, ltD_s, gtD_i, geD_i, eqD_i, neD_i, eqD_b, neD_b, eqD_s, lenD_l, lenD_t, absD_i, intD_i, tupD_l, tupD_t, lstD_l, lstD_t, mkT_0, mkT_1, mkT_2, mkT_3, mkL_0, mkL_1, sized_0, sized_1, ix_0, ix_1, ix_2, isT_t, isT_s, isT_l, isT_i, isT_n, isS_s, isS_t, isS_l, isS_i, isS_n, neD_s, Kd.inj, Mk.inj, Lk.inj, s_km, s_mk, List.length_append, L_c, L_i, L_n, L_a, L_cc, L_ic, L_ii, L_nc, L_ni, L_nn, L_ac, L_ai, L_an, L_aa]
  rfl
theorem GP.ml {p : Part} (h : GP p) : p.m.length ≤ 2 := by
  have := h.m
  simp only [marksL, List.mem_cons, List.not_mem_nil, or_false] at this
  rcases this with h | h | h | h | h <;> rw [h] <;> decide
theorem GS.ok {n : Nat} {s : Sel} (h : GS n s) (hn : n ≤ 5) : SelOk s := ⟨h.ll, by have := h.pl; omega, fun q hq => by have := (h.gp q hq).ml; omega⟩
theorem GS.fine {n : Nat} {s : Sel} (h : GS n s) (hn : n ≤ 5) : s.fine := ⟨h.ll, by have := h.pl; omega⟩
end DL

namespace DL
open PySem PySem.Spec L2
/-! ### drawn elements -/
def mkB (d k : Nat) : Bool := d / ([1, 3, 9].getD k 1) % 3 == 1
def msOf (d : Nat) : List Mk := ((List.range 3).filter (mkB d)).map fun k => [Mk.w, .x, .y].getD k .w
abbrev subs8 : List (List Mk) := [[], [.w], [.x], [.y], [.w, .x], [.w, .y], [.x, .y], [.w, .x, .y]]
theorem msOf_mem (d : Nat) : msOf d ∈ subs8 := by
  unfold msOf
  rw [show List.range 3 = [0, 1, 2] from rfl]
  rcases two (mkB d 0) with h0 | h0 <;> rcases two (mkB d 1) with h1 | h1 <;> rcases two (mkB d 2) with h2 | h2 <;>
  · simp only [List.filter_cons, List.filter_nil, h0, h1, h2, if_true, Bool.false_eq_true, if_false]
    decide
theorem marks_eq (d : Nat) : F_law_marks [.dat (nat d)] = .ok (msD (msOf d)) [.dat (nat d)] := by
  have lc := lc_filter (vs := [1]) (t := tName 1) (test := t_law_marks_2) (elt := e_law_marks_1) (s := [.dat (nat d), .un]) nat (fun k => mD ([Mk.w, .x, .y].getD k .w)) (mkB d) (xs := List.range 3) fun k hk => ⟨[.dat (nat d), .dat (nat k)], rfl, by
    have hk := List.mem_range.mp hk
    have i0 : ixD (.list [.int 1, .int 3, .int 9]) (nat 0) = some (nat 1) := ixl_nat (k := 0) rfl
    have i1 : ixD (.list [.int 1, .int 3, .int 9]) (nat 1) = some (nat 3) := ixl_nat (k := 1) rfl
    have i2 : ixD (.list [.int 1, .int 3, .int 9]) (nat 2) = some (nat 9) := ixl_nat (k := 2) rfl
    have d1 : fdivD (nat d) (nat 1) = some (nat (d / 1)) := div_nat d 1 (by decide)
    have d3 : fdivD (nat d) (nat 3) = some (nat (d / 3)) := div_nat d 3 (by decide)
    have d9 : fdivD (nat d) (nat 9) = some (nat (d / 9)) := div_nat d 9 (by decide)
    have m3 : ∀ n : Nat, modD (nat n) (.int 3) = some (nat (n % 3)) := fun n => mod_nat n 3 (by decide)
    have e1 : ∀ n : Nat, eqD (nat n) (.int 1) = some (.bool (n == 1)) := fun n => by
      rw [eqD_i]
      congr 2
      rw [Bool.eq_iff_iff, beq_iff_eq, beq_iff_eq]
      omega
    unfold t_law_marks_2
    rcases (by omega : k = 0 ∨ k = 1 ∨ k = 2) with rfl | rfl | rfl
    · simp only [mVar, mC, mMap, mMap2, lift_some, lift_none, bind_ok, bind_err, bind_bad, mCons, mNil, mT, asB_bool, asB, mAnd, mOr, mNot, andV_eq, orV_eq, mNotV, mIf, chain_eq, chK_b, mCall, sSeq, sNext, sIf, sRet, sRetN, sDrop, sAsg, sRaise, sFor, sApp, sOwn, setO, ownAt, mOwn1, mPop0, sFrz, frz, sAug, ex_ok, ex_err, ex_bad, then_nx, then_ret, then_brk, then_ct, then_err, optG_some, optG_none, tName, setD, tTupG, tsCons, tsNil, Option.bind_some, List.getElem?_cons_zero, List.getElem?_cons_succ, List.set_cons_zero, List.set_cons_succ, List.length_cons, List.length_nil, Bool.not_true, Bool.not_false, Bool.false_eq_true, if_true, if_false, reduceIte, List.map_cons, List.map_nil, List.cons_append, List.nil_append, Nat.reduceSub, Nat.reduceAdd, Nat.reduceEqDiff, Option.map_some, Option.map_none, outs, Int.reduceAdd, Int.reduceSub, Int.reduceBEq, Int.reduceLT, Int.reduceLE, decide_true, decide_false, beq_self_eq_true, cast_0, cast_1, cast_2, cast_3, cast_4, cast_5, isi_str, isi_tup, addD_i, addI_i, subD_i, leD_i, leD_s, ltD_i, ltD_s, gtD_i, geD_i, eqD_i, neD_i, eqD_b, neD_b, eqD_s, lenD_l, lenD_t, absD_i, intD_i, tupD_l, tupD_t, lstD_l, lstD_t, mkT_0, mkT_1, mkT_2, mkT_3, mkL_0, mkL_1, sized_0, sized_1, ix_0, ix_1, ix_2, isT_t, isT_s, isT_l, isT_i, isT_n, isS_s, isS_t, isS_l, isS_i, isS_n, neD_s, Kd.inj, Mk.inj, Lk.inj, s_km, s_mk, List.length_append, L_c, L_i, L_n, L_a, L_cc, L_ic, L_ii, L_nc, L_ni, L_nn, L_ac, L_ai, L_an, L_aa, mkL_100, Nat.reduceLeDiff, i0, d1, m3, e1]
      rfl
    · simp only [mVar, mC, mMap, mMap2, lift_some, lift_none, bind_ok, bind_err, bind_bad, mCons, mNil, mT, asB_bool, asB, mAnd, mOr, mNot, andV_eq, orV_eq, mNotV, mIf, chain_eq, chK_b, mCall, sSeq, sNext, sIf, sRet, sRetN, sDrop, sAsg, sRaise, sFor, sApp, sOwn, setO, ownAt, mOwn1, mPop0, sFrz, frz, sAug, ex_ok, ex_err, ex_bad, then_nx, then_ret, then_brk, then_ct, then_err, optG_some, optG_none, tName, setD, tTupG, tsCons, tsNil, Option.bind_some, List.getElem?_cons_zero, List.getElem?_cons_succ, List.set_cons_zero, List.set_cons_succ, List.length_cons, List.length_nil, Bool.not_true, Bool.not_false, Bool.false_eq_true, if_true, if_false, reduceIte, List.map_cons, List.map_nil, List.cons_append, List.nil_append, Nat.reduceSub, Nat.reduceAdd, Nat.reduceEqDiff, Option.map_some, Option.map_none, outs, Int.reduceAdd, Int.reduceSub, Int.reduceBEq, Int.reduceLT, Int.reduceLE, decide_true, decide_false, beq_self_eq_true, cast_0, cast_1, cast_2, cast_3, cast_4, cast_5, isi_str, isi_tup, addD_i, addI_i, subD_i, leD_i, leD_s, ltD_i, ltD_s, gtD_i, geD_i, eqD_i, neD_i, eqD_b, neD_b, eqD_s, lenD_l, lenD_t, absD_i, intD_i, tupD_l, tupD_t, lstD_l, lstD_t, mkT_0, mkT_1, mkT_2, mkT_3, mkL_0, mkL_1, sized_0, sized_1, ix_0, ix_1, ix_2, isT_t, isT_s, isT_l, isT_i, isT_n, isS_s, isS_t, isS_l, isS_i, isS_n, neD_s, Kd.inj, Mk.inj, Lk.inj, s_km, s_mk, List.length_append, L_c, L_i, L_n, L_a, L_cc, L_ic, L_ii, L_nc, L_ni, L_nn, L_ac, L_ai, L_an, L_aa, mkL_100, Nat.reduceLeDiff, i1, d3, m3, e1]
      rfl
    · simp only [mVar, mC, mMap, mMap2, lift_some, lift_none, bind_ok, bind_err, bind_bad, mCons, mNil, mT, asB_bool, asB, mAnd, mOr, mNot, andV_eq, orV_eq, mNotV, mIf, chain_eq, chK_b, mCall, sSeq, sNext, sIf, sRet, sRetN, sDrop, sAsg, sRaise, sFor, sApp, sOwn, setO, ownAt, mOwn1, mPop0, sFrz, frz, sAug, ex_ok, ex_err, ex_bad, then_nx, then_ret, then_brk, then_ct, then_err, optG_some, optG_none, tName, setD, tTupG, tsCons, tsNil, Option.bind_some, List.getElem?_cons_zero, List.getElem?_cons_succ, List.set_cons_zero, List.set_cons_succ, List.length_cons, List.length_nil, Bool.not_true, Bool.not_false, Bool.false_eq_true, if_true, if_false, reduceIte, List.map_cons, List.map_nil, List.cons_append, List.nil_append, Nat.reduceSub, Nat.reduceAdd, Nat.reduceEqDiff, Option.map_some, Option.map_none, outs, Int.reduceAdd, Int.reduceSub, Int.reduceBEq, Int.reduceLT, Int.reduceLE, decide_true, decide_false, beq_self_eq_true, cast_0, cast_1, cast_2, cast_3, cast_4, cast_5, isi_str, isi_tup, addD_i, addI_i, subD_i, leD_i, leD_s, ltD_i, ltD_s, gtD_i, geD_i, eqD_i, neD_i, eqD_b, neD_b, eqD_s, lenD_l, lenD_t, absD_i, intD_i, tupD_l, tupD_t, lstD_l, lstD_t, mkT_0, mkT_1, mkT_2, mkT_3, mkL_0, mkL_1, sized_0, sized_1, ix_0, ix_1, ix_2, isT_t, isT_s, isT_l, isT_i, isT_n, isS_s, isS_t, isS_l, isS_i, isS_n, neD_s, Kd.inj, Mk.inj, Lk.inj, s_km, s_mk, List.length_append, L_c, L_i, L_n, L_a, L_cc, L_ic, L_ii, L_nc, L_ni, L_nn, L_ac, L_ai, L_an, L_aa, mkL_100, Nat.reduceLeDiff, i2, d9, m3, e1]
      rfl, fun _ => by
    have hk := List.mem_range.mp hk
    have i0 : ixD (.list [.str "w", .str "x", .str "y"]) (nat 0) = some (.str "w") := ixl_nat (k := 0) rfl
    have i1 : ixD (.list [.str "w", .str "x", .str "y"]) (nat 1) = some (.str "x") := ixl_nat (k := 1) rfl
    have i2 : ixD (.list [.str "w", .str "x", .str "y"]) (nat 2) = some (.str "y") := ixl_nat (k := 2) rfl
    unfold e_law_marks_1
    rcases (by omega : k = 0 ∨ k = 1 ∨ k = 2) with rfl | rfl | rfl
    · simp only [mVar, mC, mMap, mMap2, lift_some, lift_none, bind_ok, bind_err, bind_bad, mCons, mNil, mT, asB_bool, asB, mAnd, mOr, mNot, andV_eq, orV_eq, mNotV, mIf, chain_eq, chK_b, mCall, sSeq, sNext, sIf, sRet, sRetN, sDrop, sAsg, sRaise, sFor, sApp, sOwn, setO, ownAt, mOwn1, mPop0, sFrz, frz, sAug, ex_ok, ex_err, ex_bad, then_nx, then_ret, then_brk, then_ct, then_err, optG_some, optG_none, tName, setD, tTupG, tsCons, tsNil, Option.bind_some, List.getElem?_cons_zero, List.getElem?_cons_succ, List.set_cons_zero, List.set_cons_succ, List.length_cons, List.length_nil, Bool.not_true, Bool.not_false, Bool.false_eq_true, if_true, if_false, reduceIte, List.map_cons, List.map_nil, List.cons_append, List.nil_append, Nat.reduceSub, Nat.reduceAdd, Nat.reduceEqDiff, Option.map_some, Option.map_none, outs, Int.reduceAdd, Int.reduceSub, Int.reduceBEq, Int.reduceLT, Int.reduceLE, decide_true, decide_false, beq_self_eq_true, cast_0, cast_1, cast_2, cast_3, cast_4, cast_5, isi_str, isi_tup, addD_i, addI_i, subD_i, leD_i, leD_s, ltD_i, ltD_s, gtD_i, geD_i, eqD_i, neD_i, eqD_b, neD_b, eqD_s, lenD_l, lenD_t, absD_i, intD_i, tupD_l, tupD_t, lstD_l, lstD_t, mkT_0, mkT_1, mkT_2, mkT_3, mkL_0, mkL_1, sized_0, sized_1, ix_0, ix_1, ix_2, isT_t, isT_s, isT_l, isT_i, isT_n, isS_s, isS_t, isS_l, isS_i, isS_n, neD_s, Kd.inj, Mk.inj, Lk.inj, s_km, s_mk, List.length_append, L_c, L_i, L_n, L_a, L_cc, L_ic, L_ii, L_nc, L_ni, L_nn, L_ac, L_ai, L_an, L_aa, mkL_100, Nat.reduceLeDiff, i0]
      rfl
    · simp only [mVar, mC, mMap, mMap2, lift_some, lift_none, bind_ok, bind_err, bind_bad, mCons, mNil, mT, asB_bool, asB, mAnd, mOr, mNot, andV_eq, orV_eq, mNotV, mIf, chain_eq, chK_b, mCall, sSeq, sNext, sIf, sRet, sRetN, sDrop, sAsg, sRaise, sFor, sApp, sOwn, setO, ownAt, mOwn1, mPop0, sFrz, frz, sAug, ex_ok, ex_err, ex_bad, then_nx, then_ret, then_brk, then_ct, then_err, optG_some, optG_none, tName, setD, tTupG, tsCons, tsNil, Option.bind_some, List.getElem?_cons_zero, List.getElem?_cons_succ, List.set_cons_zero, List.set_cons_succ, List.length_cons, List.length_nil, Bool.not_true, Bool.not_false, Bool.false_eq_true, if_true, if_false, reduceIte, List.map_cons, List.map_nil, List.cons_append, List.nil_append, Nat.reduceSub, Nat.reduceAdd, Nat.reduceEqDiff, Option.map_some, Option.map_none, outs, Int.reduceAdd, Int.reduceSub, Int.reduceBEq, Int.reduceLT, Int.reduceLE, decide_true, decide_false, beq_self_eq_true, cast_0, cast_1, cast_2, cast_3, cast_4, cast_5, isi_str, isi_tup, addD_i, addI_i, subD_i, leD_i, leD_s, ltD_i, ltD_s, gtD_i, geD_i, eqD_i, neD_i, eqD_b, neD_b, eqD_s, lenD_l, lenD_t, absD_i, intD_i, tupD_l, tupD_t, lstD_l, lstD_t, mkT_0, mkT_1, mkT_2, mkT_3, mkL_0, mkL_1, sized_0, sized_1, ix_0, ix_1, ix_2, isT_t, isT_s, isT_l, isT_i, isT_n, isS_s, isS_t, isS_l, isS_i, isS_n, neD_s, Kd.inj, Mk.inj, Lk.inj, s_km, s_mk, List.length_append, L_c, L_i, L_n, L_a, L_cc, L_ic, L_ii, L_nc, L_ni, L_nn, L_ac, L_ai, L_an, L_aa, mkL_100, Nat.reduceLeDiff, i1]
      rfl
    · simp only [mVar, mC, mMap, mMap2, lift_some, lift_none, bind_ok, bind_err, bind_bad, mCons, mNil, mT, asB_bool, asB, mAnd, mOr, mNot, andV_eq, orV_eq, mNotV, mIf, chain_eq, chK_b, mCall, sSeq, sNext, sIf, sRet, sRetN, sDrop, sAsg, sRaise, sFor, sApp, sOwn, setO, ownAt, mOwn1, mPop0, sFrz, frz, sAug, ex_ok, ex_err, ex_bad, then_nx, then_ret, then_brk, then_ct, then_err, optG_some, optG_none, tName, setD, tTupG, tsCons, tsNil, Option.bind_some, List.getElem?_cons_zero, List.getElem?_cons_succ, List.set_cons_zero, List.set_cons_succ, List.length_cons, List.length_nil, Bool.not_true, Bool.not_false, Bool.false_eq_true, if_true, if_false, reduceIte, List.map_cons, List.map_nil, List.cons_append, List.nil_append, Nat.reduceSub, Nat.reduceAdd, Nat.reduceEqDiff, Option.map_some, Option.map_none, outs, Int.reduceAdd, Int.reduceSub, Int.reduceBEq, Int.reduceLT, Int.reduceLE, decide_true, decide_false, beq_self_eq_true, cast_0, cast_1, cast_2, cast_3, cast_4, cast_5, isi_str, isi_tup, addD_i, addI_i, subD_i, leD_i, leD_s, ltD_i, ltD_s, gtD_i, geD_i, eqD_i, neD_i, eqD_b, neD_b, eqD_s, lenD_l, lenD_t, absD_i, intD_i, tupD_l, tupD_t, lstD_l, lstD_t, mkT_0, mkT_1, mkT_2, mkT_3, mkL_0, mkL_1, sized_0, sized_1, ix_0, ix_1, ix_2, isT_t, isT_s, isT_l, isT_i, isT_n, isS_s, isS_t, isS_l, isS_i, isS_n, neD_s, Kd.inj, Mk.inj, Lk.inj, s_km, s_mk, List.length_append, L_c, L_i, L_n, L_a, L_cc, L_ic, L_ii, L_nc, L_ni, L_nn, L_ac, L_ai, L_an, L_aa, mkL_100, Nat.reduceLeDiff, i2]
      rfl, rfl⟩
  have hr : rng1 [.int 3] = some ((List.range 3).map nat) := rng_nat (n := 3) (by decide)
  have e : ((List.range 3).filter (mkB d)).map (fun k => mD ([Mk.w, .x, .y].getD k .w)) = (msOf d).map mD := by unfold msOf; rw [List.map_map]; rfl
  rw [e] at lc
  have hl : (msOf d).length ≤ sizeLine := small_line (by
    unfold msOf
    rw [List.length_map]
    have := List.length_filter_le (mkB d) (List.range 3)
    rw [List.length_range] at this
    omega)
  refine run_of (st := [.dat (nat d), .un]) ⟨[.dat (nat d), .un], ?_, rfl⟩
  unfold g_law_marks
  generalize (List.range 3).map nat = r3 at lc hr
  simp only [mVar, mC, mMap, mMap2, lift_some, lift_none, bind_ok, bind_err, bind_bad, mCons, mNil, mT, asB_bool, asB, mAnd, mOr, mNot, andV_eq, orV_eq, mNotV, mIf, chain_eq, chK_b, mCall, sSeq, sNext, sIf, sRet, sRetN, sDrop, sAsg, sRaise, sFor, sApp, sOwn, setO, ownAt, mOwn1, mPop0, sFrz, frz, sAug, ex_ok, ex_err, ex_bad, then_nx, then_ret, then_brk, then_ct, then_err, optG_some, optG_none, tName, setD, tTupG, tsCons, tsNil, Option.bind_some, List.getElem?_cons_zero, List.getElem?_cons_succ, List.set_cons_zero, List.set_cons_succ, List.length_cons, List.length_nil, Bool.not_true, Bool.not_false, Bool.false_eq_true, if_true, if_false, reduceIte, List.map_cons, List.map_nil, List.cons_append, List.nil_append, List.replicate, Nat.reduceSub, Nat.reduceAdd, Nat.reduceEqDiff, Option.map_some, Option.map_none, outs, Int.reduceAdd, Int.reduceSub, Int.reduceBEq, Int.reduceLT, Int.reduceLE, decide_true, decide_false, beq_self_eq_true, cast_0, cast_1, cast_2, cast_3, cast_4, cast_5, isi_str, isi_tup, addD_i, addI_i, subD_i, leD_i, leD_s, ltD_i, ltD_s, gtD_i, geD_i, eqD_i, neD_i, eqD_b, neD_b, eqD_s, lenD_l, lenD_t, absD_i, intD_i, tupD_l, tupD_t, lstD_l, lstD_t, mkT_0, mkT_1, mkT_2, mkT_3, mkL_0, mkL_1, sized_0, sized_1, ix_0, ix_1, ix_2, isT_t, isT_s, isT_l, isT_i, isT_n, isS_s, isS_t, isS_l, isS_i, isS_n, neD_s, Kd.inj, Mk.inj, Lk.inj, s_km, s_mk, List.length_append, L_c, L_i, L_n, L_a, L_cc, L_ic, L_ii, L_nc, L_ni, L_nn, L_ac, L_ai, L_an, L_aa, mL, mLc, hr, noOwn, List.all_cons, List.all_nil, Bool.and_true, wipeS, lc, List.length_map, hl, putS, Option.getD_some]
def hdOk (e : El) : Prop := e.k ∈ [Kd.a, .b, .c, .d] ∧ e.m ∈ subs8
/-- an element drawn with so many levels below it -/
def Drw : Nat → El → Prop
  | 0, e => hdOk e ∧ e.c = []
  | l + 1, e => hdOk e ∧ e.c.length ≤ 3 ∧ ∀ x ∈ e.c, Drw l x
theorem Drw.dep : ∀ {l : Nat} {e : El}, Drw l e → e.dep ≤ l + 1
  | 0, e, h => by rw [e.dep_eq, h.2]; exact Nat.le_refl _
  | l + 1, e, h => by
    rw [e.dep_eq]
    have := deps_le (n := l + 1) (c := e.c) |>.mpr fun x hx => Drw.dep (h.2.2 x hx)
    omega
def nb : Nat → Nat
  | 0 => 1
  | l + 1 => 1 + 3 * nb l
theorem szs_le {n : Nat} : ∀ {c : List El}, (∀ x ∈ c, x.sz ≤ n) → szs c ≤ c.length * n
  | [], _ => Nat.zero_le _
  | a :: r, h => by
    rw [szs, List.length_cons, Nat.succ_mul]
    have h1 := h a List.mem_cons_self
    have h2 := szs_le (n := n) (c := r) fun x hx => h x (List.mem_cons_of_mem _ hx)
    omega
theorem Drw.sz : ∀ {l : Nat} {e : El}, Drw l e → e.sz ≤ nb l
  | 0, e, h => by rw [e.sz_eq, h.2]; exact Nat.le_refl _
  | l + 1, e, h => by
    rw [e.sz_eq]
    have h1 := szs_le (n := nb l) (c := e.c) fun x hx => Drw.sz (h.2.2 x hx)
    have h2 := Nat.mul_le_mul_right (nb l) h.2.1
    show szs e.c + 1 ≤ 1 + 3 * nb l
    omega
theorem kid_for {F : FnM} {l : Nat} {dr : D} (hF : ∀ L : List Nat, ∃ (e : El) (L' : List Nat), Drw l e ∧ F [.own (L.map nat), .dat (nat l)] = .ok (eD e) [.own (L'.map nat), .dat (nat l)]) :
    ∀ (ks : List D) (acc : List El) (L : List Nat) (z : Sl), NO z → acc.length + ks.length ≤ 10 → (∀ e ∈ acc, Drw l e) →
    ∃ (acc' : List El) (L' : List Nat) (z' : Sl), acc'.length = acc.length + ks.length ∧ (∀ e ∈ acc', Drw l e) ∧ forG (tName 4) (b_law_element_1 F) ks [.own (L.map nat), .dat (nat (l + 1)), .dat dr, .own (acc.map eD), z] = .nx [.own (L'.map nat), .dat (nat (l + 1)), .dat dr, .own (acc'.map eD), z']
  | [], acc, L, z, _, _, h => ⟨acc, L, z, rfl, h, rfl⟩
  | x :: r, acc, L, z, hz, hl, h => by
    rw [List.length_cons] at hl
    obtain ⟨e, L1, he, q⟩ := hF L
    have e1 : ((l + 1 : Nat) : Int) - 1 = (l : Int) := by omega
    have s1 : acc.length < sizeLine := Nat.lt_of_lt_of_le (by omega : acc.length < 10001) (small_line (by decide))
    have st : b_law_element_1 F [.own (L.map nat), .dat (nat (l + 1)), .dat dr, .own (acc.map eD), .dat x] = .nx [.own (L1.map nat), .dat (nat (l + 1)), .dat dr, .own ((acc ++ [e]).map eD), .dat x] := by
      unfold b_law_element_1
      simp only [mVar, mC, mMap, mMap2, lift_some, lift_none, bind_ok, bind_err, bind_bad, mCons, mNil, mT, asB_bool, asB, mAnd, mOr, mNot, andV_eq, orV_eq, mNotV, mIf, chain_eq, chK_b, mCall, sSeq, sNext, sIf, sRet, sRetN, sDrop, sAsg, sRaise, sFor, sApp, sOwn, setO, ownAt, mOwn1, mPop0, sFrz, frz, sAug, ex_ok, ex_err, ex_bad, then_nx, then_ret, then_brk, then_ct, then_err, optG_some, optG_none, tName, setD, tTupG, tsCons, tsNil, Option.bind_some, List.getElem?_cons_zero, List.getElem?_cons_succ, List.set_cons_zero, List.set_cons_succ, List.length_cons, List.length_nil, Bool.not_true, Bool.not_false, Bool.false_eq_true, if_true, if_false, reduceIte, List.map_cons, List.map_nil, List.cons_append, List.nil_append, List.replicate, Nat.reduceSub, Nat.reduceAdd, Nat.reduceEqDiff, Option.map_some, Option.map_none, outs, Int.reduceAdd, Int.reduceSub, Int.reduceBEq, Int.reduceLT, Int.reduceLE, decide_true, decide_false, beq_self_eq_true, cast_0, cast_1, cast_2, cast_3, cast_4, cast_5, isi_str, isi_tup, addD_i, addI_i, subD_i, leD_i, leD_s, ltD_i, ltD_s, gtD_i, geD_i, eqD_i, neD_i, eqD_b, neD_b, eqD_s, lenD_l, lenD_t, absD_i, intD_i, tupD_l, tupD_t, lstD_l, lstD_t, mkT_0, mkT_1, mkT_2, mkT_3, mkL_0, mkL_1, sized_0, sized_1, ix_0, ix_1, ix_2, isT_t, isT_s, isT_l, isT_i, isT_n, isS_s, isS_t, isS_l, isS_i, isS_n, neD_s, Kd.inj, Mk.inj, Lk.inj, s_km, s_mk, List.length_append, L_c, L_i, L_n, L_a, L_cc, L_ic, L_ii, L_nc, L_ni, L_nn, L_ac, L_ai, L_an, L_aa, mCallO, e1, q, List.length_map, s1, List.map_append]
    obtain ⟨acc', L', z', k1, k2, k3⟩ := kid_for (dr := dr) hF r (acc ++ [e]) L1 (.dat x) (no_dat _) (by rw [List.length_append, List.length_singleton]; omega) fun y hy => by
      rcases List.mem_append.mp hy with hy | hy
      · exact h y hy
      · rw [List.mem_singleton.mp hy]; exact he
    rw [List.length_append, List.length_singleton] at k1
    exact ⟨acc', L', z', by rw [List.length_cons]; omega, k2, by rw [for_nx (set_no hz rfl) st, k3]⟩
theorem el_end {l : Nat} {F : FnM} {cs : List El} {d : Nat} {L : List Nat} {z : Sl} (hc : cs.length ≤ 10) : ∃ k : Kd, k ∈ [Kd.a, .b, .c, .d] ∧ sRet (mMap (mCons (mMap2 (mMap (mCons (mC (.str "a")) (mCons (mC (.str "b")) (mCons (mC (.str "c")) (mCons (mC (.str "d")) mNil)))) mkL) (mMap2 (mMap2 (mVar 2) (mC (.int 5)) fdivD) (mC (.int 4)) modD) ixD) (mCons (mCall 1 F_law_marks (mCons (mMap2 (mVar 2) (mC (.int 20)) fdivD) mNil)) (mCons (mOwn1 3 tupD) mNil))) mkT) [.own (L.map nat), .dat (nat l), .dat (nat d), .own (cs.map eD), z] =
    .ret (eD (.mk k (msOf (d / 20)) cs)) [.own (L.map nat), .dat (nat l), .dat (nat d), .own (cs.map eD), z] := by
  obtain ⟨k, hk, ek⟩ := ix_typed kD [Kd.a, .b, .c, .d] (m := 4) rfl (by decide) (d / 5)
  have ek : ixD (.list [.str "a", .str "b", .str "c", .str "d"]) (nat (d / 5 % 4)) = some (kD k) := ek
  have d5 : fdivD (nat d) (.int 5) = some (nat (d / 5)) := div_nat d 5 (by decide)
  have d20 : fdivD (nat d) (.int 20) = some (nat (d / 20)) := div_nat d 20 (by decide)
  have m4 : modD (nat (d / 5)) (.int 4) = some (nat (d / 5 % 4)) := mod_nat _ 4 (by decide)
  have hM := marks_eq (d / 20)
  refine ⟨k, hk, ?_⟩
  rw [eD, eDs_eq]
  simp only [mVar, mC, mMap, mMap2, lift_some, lift_none, bind_ok, bind_err, bind_bad, mCons, mNil, mT, asB_bool, asB, mAnd, mOr, mNot, andV_eq, orV_eq, mNotV, mIf, chain_eq, chK_b, mCall, sSeq, sNext, sIf, sRet, sRetN, sDrop, sAsg, sRaise, sFor, sApp, sOwn, setO, ownAt, mOwn1, mPop0, sFrz, frz, sAug, ex_ok, ex_err, ex_bad, then_nx, then_ret, then_brk, then_ct, then_err, optG_some, optG_none, tName, setD, tTupG, tsCons, tsNil, Option.bind_some, List.getElem?_cons_zero, List.getElem?_cons_succ, List.set_cons_zero, List.set_cons_succ, List.length_cons, List.length_nil, Bool.not_true, Bool.not_false, Bool.false_eq_true, if_true, if_false, reduceIte, List.map_cons, List.map_nil, List.cons_append, List.nil_append, List.replicate, Nat.reduceSub, Nat.reduceAdd, Nat.reduceEqDiff, Option.map_some, Option.map_none, outs, Int.reduceAdd, Int.reduceSub, Int.reduceBEq, Int.reduceLT, Int.reduceLE, decide_true, decide_false, beq_self_eq_true, cast_0, cast_1, cast_2, cast_3, cast_4, cast_5, isi_str, isi_tup, addD_i, addI_i, subD_i, leD_i, leD_s, ltD_i, ltD_s, gtD_i, geD_i, eqD_i, neD_i, eqD_b, neD_b, eqD_s, lenD_l, lenD_t, absD_i, intD_i, tupD_l, tupD_t, lstD_l, lstD_t, mkT_0, mkT_1, mkT_2, mkT_3, mkL_0, mkL_1, sized_0, sized_1, ix_0, ix_1, ix_2, isT_t, isT_s, isT_l, isT_i, isT_n, isS_s, isS_t, isS_l, isS_i, isS_n, neD_s, Kd.inj, Mk.inj, Lk.inj, s_km, s_mk, List.length_append, L_c, L_i, L_n, L_a, L_cc, L_ic, L_ii, L_nc, L_ni, L_nn, L_ac, L_ai, L_an, L_aa, mkL_100, Nat.reduceLeDiff, d5, d20, m4, ek, hM]
theorem element_eq : ∀ (n l : Nat) (L : List Nat), l < n → l ≤ 20 → ∃ (e : El) (L' : List Nat), Drw l e ∧ F_law_element n [.own (L.map nat), .dat (nat l)] = .ok (eD e) [.own (L'.map nat), .dat (nat l)]
  | 0, _, _, h, _ => by omega
  | n + 1, l, L, h, h20 => by
    have nx := next_eq L
    generalize L.headD 0 = d at nx
    generalize L.tail = L1 at nx
    cases l with
    | zero =>
      obtain ⟨k, hk, q⟩ := el_end (l := 0) (F := F_law_element n) (cs := []) (d := d) (L := L1) (z := .un) (by decide)
      refine ⟨.mk k (msOf (d / 20)) [], L1, ⟨⟨hk, msOf_mem _⟩, rfl⟩, ?_⟩
      refine run_ret (st := [.own (L.map nat), .dat (nat 0), .un, .un, .un]) (s := [.own (L1.map nat), .dat (nat 0), .dat (nat d), .own [], .un]) ?_
      unfold g_law_element
      refine (seq_nx (s1 := [.own (L1.map nat), .dat (nat 0), .dat (nat d), .un, .un]) (by simp only [mVar, mC, mMap, mMap2, lift_some, lift_none, bind_ok, bind_err, bind_bad, mCons, mNil, mT, asB_bool, asB, mAnd, mOr, mNot, andV_eq, orV_eq, mNotV, mIf, chain_eq, chK_b, mCall, sSeq, sNext, sIf, sRet, sRetN, sDrop, sAsg, sRaise, sFor, sApp, sOwn, setO, ownAt, mOwn1, mPop0, sFrz, frz, sAug, ex_ok, ex_err, ex_bad, then_nx, then_ret, then_brk, then_ct, then_err, optG_some, optG_none, tName, setD, tTupG, tsCons, tsNil, Option.bind_some, List.getElem?_cons_zero, List.getElem?_cons_succ, List.set_cons_zero, List.set_cons_succ, List.length_cons, List.length_nil, Bool.not_true, Bool.not_false, Bool.false_eq_true, if_true, if_false, reduceIte, List.map_cons, List.map_nil, List.cons_append, List.nil_append, List.replicate, Nat.reduceSub, Nat.reduceAdd, Nat.reduceEqDiff, Option.map_some, Option.map_none, outs, Int.reduceAdd, Int.reduceSub, Int.reduceBEq, Int.reduceLT, Int.reduceLE, decide_true, decide_false, beq_self_eq_true, cast_0, cast_1, cast_2, cast_3, cast_4, cast_5, isi_str, isi_tup, addD_i, addI_i, subD_i, leD_i, leD_s, ltD_i, ltD_s, gtD_i, geD_i, eqD_i, neD_i, eqD_b, neD_b, eqD_s, lenD_l, lenD_t, absD_i, intD_i, tupD_l, tupD_t, lstD_l, lstD_t, mkT_0, mkT_1, mkT_2, mkT_3, mkL_0, mkL_1, sized_0, sized_1, ix_0, ix_1, ix_2, isT_t, isT_s, isT_l, isT_i, isT_n, isS_s, isS_t, isS_l, isS_i, isS_n, neD_s, Kd.inj, Mk.inj, Lk.inj, s_km, s_mk, List.length_append, L_c, L_i, L_n, L_a, L_cc, L_ic, L_ii, L_nc, L_ni, L_nn, L_ac, L_ai, L_an, L_aa, mCallO, nx])).trans ?_
      refine (seq_nx (s1 := [.own (L1.map nat), .dat (nat 0), .dat (nat d), .own [], .un]) (by simp only [mVar, mC, mMap, mMap2, lift_some, lift_none, bind_ok, bind_err, bind_bad, mCons, mNil, mT, asB_bool, asB, mAnd, mOr, mNot, andV_eq, orV_eq, mNotV, mIf, chain_eq, chK_b, mCall, sSeq, sNext, sIf, sRet, sRetN, sDrop, sAsg, sRaise, sFor, sApp, sOwn, setO, ownAt, mOwn1, mPop0, sFrz, frz, sAug, ex_ok, ex_err, ex_bad, then_nx, then_ret, then_brk, then_ct, then_err, optG_some, optG_none, tName, setD, tTupG, tsCons, tsNil, Option.bind_some, List.getElem?_cons_zero, List.getElem?_cons_succ, List.set_cons_zero, List.set_cons_succ, List.length_cons, List.length_nil, Bool.not_true, Bool.not_false, Bool.false_eq_true, if_true, if_false, reduceIte, List.map_cons, List.map_nil, List.cons_append, List.nil_append, List.replicate, Nat.reduceSub, Nat.reduceAdd, Nat.reduceEqDiff, Option.map_some, Option.map_none, outs, Int.reduceAdd, Int.reduceSub, Int.reduceBEq, Int.reduceLT, Int.reduceLE, decide_true, decide_false, beq_self_eq_true, cast_0, cast_1, cast_2, cast_3, cast_4, cast_5, isi_str, isi_tup, addD_i, addI_i, subD_i, leD_i, leD_s, ltD_i, ltD_s, gtD_i, geD_i, eqD_i, neD_i, eqD_b, neD_b, eqD_s, lenD_l, lenD_t, absD_i, intD_i, tupD_l, tupD_t, lstD_l, lstD_t, mkT_0, mkT_1, mkT_2, mkT_3, mkL_0, mkL_1, sized_0, sized_1, ix_0, ix_1, ix_2, isT_t, isT_s, isT_l, isT_i, isT_n, isS_s, isS_t, isS_l, isS_i, isS_n, neD_s, Kd.inj, Mk.inj, Lk.inj, s_km, s_mk, List.length_append, L_c, L_i, L_n, L_a, L_cc, L_ic, L_ii, L_nc, L_ni, L_nn, L_ac, L_ai, L_an, L_aa])).trans ?_
      refine (seq_nx (s1 := [.own (L1.map nat), .dat (nat 0), .dat (nat d), .own [], .un]) (by simp only [mVar, mC, mMap, mMap2, lift_some, lift_none, bind_ok, bind_err, bind_bad, mCons, mNil, mT, asB_bool, asB, mAnd, mOr, mNot, andV_eq, orV_eq, mNotV, mIf, chain_eq, chK_b, mCall, sSeq, sNext, sIf, sRet, sRetN, sDrop, sAsg, sRaise, sFor, sApp, sOwn, setO, ownAt, mOwn1, mPop0, sFrz, frz, sAug, ex_ok, ex_err, ex_bad, then_nx, then_ret, then_brk, then_ct, then_err, optG_some, optG_none, tName, setD, tTupG, tsCons, tsNil, Option.bind_some, List.getElem?_cons_zero, List.getElem?_cons_succ, List.set_cons_zero, List.set_cons_succ, List.length_cons, List.length_nil, Bool.not_true, Bool.not_false, Bool.false_eq_true, if_true, if_false, reduceIte, List.map_cons, List.map_nil, List.cons_append, List.nil_append, List.replicate, Nat.reduceSub, Nat.reduceAdd, Nat.reduceEqDiff, Option.map_some, Option.map_none, outs, Int.reduceAdd, Int.reduceSub, Int.reduceBEq, Int.reduceLT, Int.reduceLE, decide_true, decide_false, beq_self_eq_true, cast_0, cast_1, cast_2, cast_3, cast_4, cast_5, isi_str, isi_tup, addD_i, addI_i, subD_i, leD_i, leD_s, ltD_i, ltD_s, gtD_i, geD_i, eqD_i, neD_i, eqD_b, neD_b, eqD_s, lenD_l, lenD_t, absD_i, intD_i, tupD_l, tupD_t, lstD_l, lstD_t, mkT_0, mkT_1, mkT_2, mkT_3, mkL_0, mkL_1, sized_0, sized_1, ix_0, ix_1, ix_2, isT_t, isT_s, isT_l, isT_i, isT_n, isS_s, isS_t, isS_l, isS_i, isS_n, neD_s, Kd.inj, Mk.inj, Lk.inj, s_km, s_mk, List.length_append, L_c, L_i, L_n, L_a, L_cc, L_ic, L_ii, L_nc, L_ni, L_nn, L_ac, L_ai, L_an, L_aa])).trans ?_
      exact q
    | succ l =>
      have hF : ∀ L : List Nat, ∃ (e : El) (L' : List Nat), Drw l e ∧ F_law_element n [.own (L.map nat), .dat (nat l)] = .ok (eD e) [.own (L'.map nat), .dat (nat l)] := fun L => element_eq n l L (by omega) (by omega)
      obtain ⟨c, hc, ec⟩ := ix_typed nat [0, 1, 2, 3, 2] (m := 5) rfl (by decide) d
      have hc3 : c ≤ 3 := by
        simp only [List.mem_cons, List.not_mem_nil, or_false] at hc
        omega
      have ec : ixD (.list [.int 0, .int 1, .int 2, .int 3, .int 2]) (nat (d % 5)) = some (nat c) := ec
      have m5 : modD (nat d) (.int 5) = some (nat (d % 5)) := mod_nat d 5 (by decide)
      have hr : rng1 [nat c] = some ((List.range c).map nat) := rng_nat (by omega)
      have g0 : (0 : Int) < ((l + 1 : Nat) : Int) := by omega
      by_cases h0 : 0 < L1.length
      · have h0' : (0 : Int) < (L1.length : Int) := by omega
        obtain ⟨cs, L2, z', k1, k2, k3⟩ := kid_for (dr := nat d) hF ((List.range c).map nat) [] L1 .un no_un (by rw [List.length_map, List.length_range, List.length_nil]; omega) fun e h => by cases h
        rw [List.length_map, List.length_range, List.length_nil] at k1
        obtain ⟨k, hk, q⟩ := el_end (l := l + 1) (F := F_law_element n) (cs := cs) (d := d) (L := L2) (z := z') (by omega)
        refine ⟨.mk k (msOf (d / 20)) cs, L2, ⟨⟨hk, msOf_mem _⟩, by show cs.length ≤ 3; omega, k2⟩, ?_⟩
        refine run_ret (st := [.own (L.map nat), .dat (nat (l + 1)), .un, .un, .un]) (s := [.own (L2.map nat), .dat (nat (l + 1)), .dat (nat d), .own (cs.map eD), z']) ?_
        unfold g_law_element
        refine (seq_nx (s1 := [.own (L1.map nat), .dat (nat (l + 1)), .dat (nat d), .un, .un]) (by simp only [mVar, mC, mMap, mMap2, lift_some, lift_none, bind_ok, bind_err, bind_bad, mCons, mNil, mT, asB_bool, asB, mAnd, mOr, mNot, andV_eq, orV_eq, mNotV, mIf, chain_eq, chK_b, mCall, sSeq, sNext, sIf, sRet, sRetN, sDrop, sAsg, sRaise, sFor, sApp, sOwn, setO, ownAt, mOwn1, mPop0, sFrz, frz, sAug, ex_ok, ex_err, ex_bad, then_nx, then_ret, then_brk, then_ct, then_err, optG_some, optG_none, tName, setD, tTupG, tsCons, tsNil, Option.bind_some, List.getElem?_cons_zero, List.getElem?_cons_succ, List.set_cons_zero, List.set_cons_succ, List.length_cons, List.length_nil, Bool.not_true, Bool.not_false, Bool.false_eq_true, if_true, if_false, reduceIte, List.map_cons, List.map_nil, List.cons_append, List.nil_append, List.replicate, Nat.reduceSub, Nat.reduceAdd, Nat.reduceEqDiff, Option.map_some, Option.map_none, outs, Int.reduceAdd, Int.reduceSub, Int.reduceBEq, Int.reduceLT, Int.reduceLE, decide_true, decide_false, beq_self_eq_true, cast_0, cast_1, cast_2, cast_3, cast_4, cast_5, isi_str, isi_tup, addD_i, addI_i, subD_i, leD_i, leD_s, ltD_i, ltD_s, gtD_i, geD_i, eqD_i, neD_i, eqD_b, neD_b, eqD_s, lenD_l, lenD_t, absD_i, intD_i, tupD_l, tupD_t, lstD_l, lstD_t, mkT_0, mkT_1, mkT_2, mkT_3, mkL_0, mkL_1, sized_0, sized_1, ix_0, ix_1, ix_2, isT_t, isT_s, isT_l, isT_i, isT_n, isS_s, isS_t, isS_l, isS_i, isS_n, neD_s, Kd.inj, Mk.inj, Lk.inj, s_km, s_mk, List.length_append, L_c, L_i, L_n, L_a, L_cc, L_ic, L_ii, L_nc, L_ni, L_nn, L_ac, L_ai, L_an, L_aa, mCallO, nx])).trans ?_
        refine (seq_nx (s1 := [.own (L1.map nat), .dat (nat (l + 1)), .dat (nat d), .own [], .un]) (by simp only [mVar, mC, mMap, mMap2, lift_some, lift_none, bind_ok, bind_err, bind_bad, mCons, mNil, mT, asB_bool, asB, mAnd, mOr, mNot, andV_eq, orV_eq, mNotV, mIf, chain_eq, chK_b, mCall, sSeq, sNext, sIf, sRet, sRetN, sDrop, sAsg, sRaise, sFor, sApp, sOwn, setO, ownAt, mOwn1, mPop0, sFrz, frz, sAug, ex_ok, ex_err, ex_bad, then_nx, then_ret, then_brk, then_ct, then_err, optG_some, optG_none, tName, setD, tTupG, tsCons, tsNil, Option.bind_some, List.getElem?_cons_zero, List.getElem?_cons_succ, List.set_cons_zero, List.set_cons_succ, List.length_cons, List.length_nil, Bool.not_true, Bool.not_false, Bool.false_eq_true, if_true, if_false, reduceIte, List.map_cons, List.map_nil, List.cons_append, List.nil_append, List.replicate, Nat.reduceSub, Nat.reduceAdd, Nat.reduceEqDiff, Option.map_some, Option.map_none, outs, Int.reduceAdd, Int.reduceSub, Int.reduceBEq, Int.reduceLT, Int.reduceLE, decide_true, decide_false, beq_self_eq_true, cast_0, cast_1, cast_2, cast_3, cast_4, cast_5, isi_str, isi_tup, addD_i, addI_i, subD_i, leD_i, leD_s, ltD_i, ltD_s, gtD_i, geD_i, eqD_i, neD_i, eqD_b, neD_b, eqD_s, lenD_l, lenD_t, absD_i, intD_i, tupD_l, tupD_t, lstD_l, lstD_t, mkT_0, mkT_1, mkT_2, mkT_3, mkL_0, mkL_1, sized_0, sized_1, ix_0, ix_1, ix_2, isT_t, isT_s, isT_l, isT_i, isT_n, isS_s, isS_t, isS_l, isS_i, isS_n, neD_s, Kd.inj, Mk.inj, Lk.inj, s_km, s_mk, List.length_append, L_c, L_i, L_n, L_a, L_cc, L_ic, L_ii, L_nc, L_ni, L_nn, L_ac, L_ai, L_an, L_aa])).trans ?_
        refine (seq_nx (s1 := [.own (L2.map nat), .dat (nat (l + 1)), .dat (nat d), .own (cs.map eD), z']) ?_).trans ?_
        · rw [← k3]
          simp only [mVar, mC, mMap, mMap2, lift_some, lift_none, bind_ok, bind_err, bind_bad, mCons, mNil, mT, asB_bool, asB, mAnd, mOr, mNot, andV_eq, orV_eq, mNotV, mIf, chain_eq, chK_b, mCall, sSeq, sNext, sIf, sRet, sRetN, sDrop, sAsg, sRaise, sFor, sApp, sOwn, setO, ownAt, mOwn1, mPop0, sFrz, frz, sAug, ex_ok, ex_err, ex_bad, then_nx, then_ret, then_brk, then_ct, then_err, optG_some, optG_none, tName, setD, tTupG, tsCons, tsNil, Option.bind_some, List.getElem?_cons_zero, List.getElem?_cons_succ, List.set_cons_zero, List.set_cons_succ, List.length_cons, List.length_nil, Bool.not_true, Bool.not_false, Bool.false_eq_true, if_true, if_false, reduceIte, List.map_cons, List.map_nil, List.cons_append, List.nil_append, List.replicate, Nat.reduceSub, Nat.reduceAdd, Nat.reduceEqDiff, Option.map_some, Option.map_none, outs, Int.reduceAdd, Int.reduceSub, Int.reduceBEq, Int.reduceLT, Int.reduceLE, decide_true, decide_false, beq_self_eq_true, cast_0, cast_1, cast_2, cast_3, cast_4, cast_5, isi_str, isi_tup, addD_i, addI_i, subD_i, leD_i, leD_s, ltD_i, ltD_s, gtD_i, geD_i, eqD_i, neD_i, eqD_b, neD_b, eqD_s, lenD_l, lenD_t, absD_i, intD_i, tupD_l, tupD_t, lstD_l, lstD_t, mkT_0, mkT_1, mkT_2, mkT_3, mkL_0, mkL_1, sized_0, sized_1, ix_0, ix_1, ix_2, isT_t, isT_s, isT_l, isT_i, isT_n, isS_s, isS_t, isS_l, isS_i, isS_n, neD_s, Kd.inj, Mk.inj, Lk.inj, s_km, s_mk, List.length_append, L_c, L_i, L_n, L_a, L_cc, L_ic, L_ii, L_nc, L_ni, L_nn, L_ac, L_ai, L_an, L_aa, g0, h0', List.length_map, mkL_100, Nat.reduceLeDiff, m5, ec, hr]
        exact q
      · have h0' : ¬ (0 : Int) < (L1.length : Int) := by omega
        obtain ⟨k, hk, q⟩ := el_end (l := l + 1) (F := F_law_element n) (cs := []) (d := d) (L := L1) (z := .un) (by decide)
        refine ⟨.mk k (msOf (d / 20)) [], L1, ⟨⟨hk, msOf_mem _⟩, by show 0 ≤ 3; omega, fun x h => by cases h⟩, ?_⟩
        refine run_ret (st := [.own (L.map nat), .dat (nat (l + 1)), .un, .un, .un]) (s := [.own (L1.map nat), .dat (nat (l + 1)), .dat (nat d), .own [], .un]) ?_
        unfold g_law_element
        refine (seq_nx (s1 := [.own (L1.map nat), .dat (nat (l + 1)), .dat (nat d), .un, .un]) (by simp only [mVar, mC, mMap, mMap2, lift_some, lift_none, bind_ok, bind_err, bind_bad, mCons, mNil, mT, asB_bool, asB, mAnd, mOr, mNot, andV_eq, orV_eq, mNotV, mIf, chain_eq, chK_b, mCall, sSeq, sNext, sIf, sRet, sRetN, sDrop, sAsg, sRaise, sFor, sApp, sOwn, setO, ownAt, mOwn1, mPop0, sFrz, frz, sAug, ex_ok, ex_err, ex_bad, then_nx, then_ret, then_brk, then_ct, then_err, optG_some, optG_none, tName, setD, tTupG, tsCons, tsNil, Option.bind_some, List.getElem?_cons_zero, List.getElem?_cons_succ, List.set_cons_zero, List.set_cons_succ, List.length_cons, List.length_nil, Bool.not_true, Bool.not_false, Bool.false_eq_true, if_true, if_false, reduceIte, List.map_cons, List.map_nil, List.cons_append, List.nil_append, List.replicate, Nat.reduceSub, Nat.reduceAdd, Nat.reduceEqDiff, Option.map_some, Option.map_none, outs, Int.reduceAdd, Int.reduceSub, Int.reduceBEq, Int.reduceLT, Int.reduceLE, decide_true, decide_false, beq_self_eq_true, cast_0, cast_1, cast_2, cast_3, cast_4, cast_5, isi_str, isi_tup, addD_i, addI_i, subD_i, leD_i, leD_s, ltD_i, ltD_s, gtD_i, geD_i, eqD_i, neD_i, eqD_b, neD_b, eqD_s, lenD_l, lenD_t, absD_i, intD_i, tupD_l, tupD_t, lstD_l, lstD_t, mkT_0, mkT_1, mkT_2, mkT_3, mkL_0, mkL_1, sized_0, sized_1, ix_0, ix_1, ix_2, isT_t, isT_s, isT_l, isT_i, isT_n, isS_s, isS_t, isS_l, isS_i, isS_n, neD_s, Kd.inj, Mk.inj, Lk.inj, s_km, s_mk, List.length_append, L_c, L_i, L_n, L_a, L_cc, L_ic, L_ii, L_nc, L_ni, L_nn, L_ac, L_ai, L_an, L_aa, mCallO, nx])).trans ?_
        refine (seq_nx (s1 := [.own (L1.map nat), .dat (nat (l + 1)), .dat (nat d), .own [], .un]) (by simp only [mVar, mC, mMap, mMap2, lift_some, lift_none, bind_ok, bind_err, bind_bad, mCons, mNil, mT, asB_bool, asB, mAnd, mOr, mNot, andV_eq, orV_eq, mNotV, mIf, chain_eq, chK_b, mCall, sSeq, sNext, sIf, sRet, sRetN, sDrop, sAsg, sRaise, sFor, sApp, sOwn, setO, ownAt, mOwn1, mPop0, sFrz, frz, sAug, ex_ok, ex_err, ex_bad, then_nx, then_ret, then_brk, then_ct, then_err, optG_some, optG_none, tName, setD, tTupG, tsCons, tsNil, Option.bind_some, List.getElem?_cons_zero, List.getElem?_cons_succ, List.set_cons_zero, List.set_cons_succ, List.length_cons, List.length_nil, Bool.not_true, Bool.not_false, Bool.false_eq_true, if_true, if_false, reduceIte, List.map_cons, List.map_nil, List.cons_append, List.nil_append, List.replicate, Nat.reduceSub, Nat.reduceAdd, Nat.reduceEqDiff, Option.map_some, Option.map_none, outs, Int.reduceAdd, Int.reduceSub, Int.reduceBEq, Int.reduceLT, Int.reduceLE, decide_true, decide_false, beq_self_eq_true, cast_0, cast_1, cast_2, cast_3, cast_4, cast_5, isi_str, isi_tup, addD_i, addI_i, subD_i, leD_i, leD_s, ltD_i, ltD_s, gtD_i, geD_i, eqD_i, neD_i, eqD_b, neD_b, eqD_s, lenD_l, lenD_t, absD_i, intD_i, tupD_l, tupD_t, lstD_l, lstD_t, mkT_0, mkT_1, mkT_2, mkT_3, mkL_0, mkL_1, sized_0, sized_1, ix_0, ix_1, ix_2, isT_t, isT_s, isT_l, isT_i, isT_n, isS_s, isS_t, isS_l, isS_i, isS_n, neD_s, Kd.inj, Mk.inj, Lk.inj, s_km, s_mk, List.length_append, L_c, L_i, L_n, L_a, L_cc, L_ic, L_ii, L_nc, L_ni, L_nn, L_ac, L_ai, L_an, L_aa])).trans ?_
        refine (seq_nx (s1 := [.own (L1.map nat), .dat (nat (l + 1)), .dat (nat d), .own [], .un]) ?_).trans ?_
        · simp only [mVar, mC, mMap, mMap2, lift_some, lift_none, bind_ok, bind_err, bind_bad, mCons, mNil, mT, asB_bool, asB, mAnd, mOr, mNot, andV_eq, orV_eq, mNotV, mIf, chain_eq, chK_b, mCall, sSeq, sNext, sIf, sRet, sRetN, sDrop, sAsg, sRaise, sFor, sApp, sOwn, setO, ownAt, mOwn1, mPop0, sFrz, frz, sAug, ex_ok, ex_err, ex_bad, then_nx, then_ret, then_brk, then_ct, then_err, optG_some, optG_none, tName, setD, tTupG, tsCons, tsNil, Option.bind_some, List.getElem?_cons_zero, List.getElem?_cons_succ, List.set_cons_zero, List.set_cons_succ, List.length_cons, List.length_nil, Bool.not_true, Bool.not_false, Bool.false_eq_true, if_true, if_false, reduceIte, List.map_cons, List.map_nil, List.cons_append, List.nil_append, List.replicate, Nat.reduceSub, Nat.reduceAdd, Nat.reduceEqDiff, Option.map_some, Option.map_none, outs, Int.reduceAdd, Int.reduceSub, Int.reduceBEq, Int.reduceLT, Int.reduceLE, decide_true, decide_false, beq_self_eq_true, cast_0, cast_1, cast_2, cast_3, cast_4, cast_5, isi_str, isi_tup, addD_i, addI_i, subD_i, leD_i, leD_s, ltD_i, ltD_s, gtD_i, geD_i, eqD_i, neD_i, eqD_b, neD_b, eqD_s, lenD_l, lenD_t, absD_i, intD_i, tupD_l, tupD_t, lstD_l, lstD_t, mkT_0, mkT_1, mkT_2, mkT_3, mkL_0, mkL_1, sized_0, sized_1, ix_0, ix_1, ix_2, isT_t, isT_s, isT_l, isT_i, isT_n, isS_s, isS_t, isS_l, isS_i, isS_n, neD_s, Kd.inj, Mk.inj, Lk.inj, s_km, s_mk, List.length_append, L_c, L_i, L_n, L_a, L_cc, L_ic, L_ii, L_nc, L_ni, L_nn, L_ac, L_ai, L_an, L_aa, g0, h0', List.length_map]
        exact q
end DL

namespace DL
open PySem PySem.Spec L2
/-! ### values that can be compared -/
theorem lay_all : ∀ cs : List D, (∀ c ∈ cs, c.canLay0 = true) → PyData.canLayAll0 cs = true
  | [], _ => rfl
  | c :: r, h => by
    show (c.canLay0 && PyData.canLayAll0 r) = true
    rw [h c List.mem_cons_self, lay_all r fun c hc => h c (List.mem_cons_of_mem _ hc)]
    rfl
theorem depth_all {b : Nat} : ∀ cs : List D, (∀ c ∈ cs, c.depth ≤ b) → PyData.depthAll cs ≤ b
  | [], _ => Nat.zero_le _
  | c :: r, h => by
    show max c.depth (PyData.depthAll r) ≤ b
    have h1 := h c List.mem_cons_self
    have h2 := depth_all r fun c hc => h c (List.mem_cons_of_mem _ hc)
    omega
theorem shaped_of {d : D} (h : d.canLay0 = true) (h2 : d.depth ≤ 64) : SeqAt.shaped d = true := Bool.and_eq_true_iff.mpr ⟨h, decide_eq_true h2⟩
def Lay (b : Nat) (d : D) : Prop := d.canLay0 = true ∧ d.depth ≤ b
theorem lay_tup {b : Nat} {ds : List D} (h : ∀ d ∈ ds, Lay b d) : Lay (b + 1) (.tuple ds) := by
  constructor
  · show PyData.canLayAll0 ds = true
    exact lay_all ds fun d hd => (h d hd).1
  · have := depth_all (b := b) ds fun d hd => (h d hd).2
    show PyData.depthAll ds + 1 ≤ b + 1
    omega
theorem lay_lst {b : Nat} {ds : List D} (h : ∀ d ∈ ds, Lay b d) : Lay (b + 1) (.list ds) := lay_tup h
theorem Lay.up {a b : Nat} {d : D} (h : Lay a d) (hb : a ≤ b) : Lay b d := ⟨h.1, Nat.le_trans h.2 hb⟩
theorem Lay.shaped {b : Nat} {d : D} (h : Lay b d) (hb : b ≤ 64 := by decide) : SeqAt.shaped d = true := shaped_of h.1 (Nat.le_trans h.2 hb)
theorem eq_refl' {d : D} (h : SeqAt.shaped d = true) : eqD d d = some (.bool true) := by
  unfold eqD
  rw [if_pos (.inr ⟨h, h⟩), SeqAt.eqv_refl d (SeqAt.canLay_of_shaped h)]
theorem ne_refl {d : D} (h : SeqAt.shaped d = true) : neD d d = some (.bool false) := by
  unfold neD
  rw [if_pos (.inr ⟨h, h⟩), SeqAt.eqv_refl d (SeqAt.canLay_of_shaped h)]
  rfl
theorem lay_int (i : Int) : Lay 0 (.int i) := ⟨rfl, Nat.le_refl _⟩
theorem lay_bool (b : Bool) : Lay 0 (.bool b) := ⟨rfl, Nat.le_refl _⟩
theorem lay_none : Lay 0 .none := ⟨rfl, Nat.le_refl _⟩
theorem lay_k (k : Kd) : Lay 0 (kD k) := by cases k <;> exact ⟨by decide +kernel, Nat.le_refl _⟩
theorem lay_m (m : Mk) : Lay 0 (mD m) := by cases m <;> exact ⟨by decide +kernel, Nat.le_refl _⟩
theorem lay_l (l : Lk) : Lay 0 (lD l) := by cases l <;> exact ⟨by decide +kernel, Nat.le_refl _⟩
theorem lay_ms (ms : List Mk) : Lay 1 (msD ms) := lay_tup fun d hd => by
  obtain ⟨m, _, rfl⟩ := List.mem_map.mp hd
  exact lay_m m
theorem lay_pl (p : List Nat) : Lay 1 (plD p) := lay_tup fun d hd => by
  obtain ⟨m, _, rfl⟩ := List.mem_map.mp hd
  exact lay_int m
theorem lay_pls (ps : List (List Nat)) : Lay 2 (.list (ps.map plD)) := lay_lst fun d hd => by
  obtain ⟨m, _, rfl⟩ := List.mem_map.mp hd
  exact lay_pl m
theorem in_bools (bs : List Bool) : inD (.bool true) (.list (bs.map .bool)) = some (.bool (bs.any id)) := by
  have fl : (bs.map PyData.bool).all flatD = true := by
    rw [List.all_map]
    exact List.all_eq_true.mpr fun _ _ => rfl
  show (if flatD (.bool true) = true ∧ (bs.map PyData.bool).all flatD = true then some (PyData.bool ((bs.map PyData.bool).any fun z => PyData.eqv z (.bool true))) else none) = _
  rw [if_pos ⟨rfl, fl⟩, List.any_map]
  congr 3
  funext b
  cases b <;> rfl
theorem range_pick {α : Type} (xs : List α) (d : α) : (List.range xs.length).map (fun i => xs.getD i d) = xs := by
  refine List.ext_getElem (by rw [List.length_map, List.length_range]) fun i h1 h2 => ?_
  rw [List.getElem_map, List.getElem_range, List.getD_eq_getElem?_getD, List.getElem?_eq_getElem h2]
  rfl
theorem range_filter {α β : Type} (xs : List α) (d : α) (b : α → Bool) (f : α → β) : ((List.range xs.length).filter fun i => b (xs.getD i d)).map (fun i => f (xs.getD i d)) = (xs.filter b).map f := by
  conv => rhs; rw [← range_pick xs d, List.filter_map, List.map_map]
  rfl
theorem lc_cons {vs : List Nat} {t : Tg} {elt : M D} {d x : D} {r xs : List D} {s s1 s2 s3 : Sts} (h : t d s = some s1) (he : elt s1 = .ok x s2) (hr : lcG vs t mYes elt r (wipeS s2 vs) = .ok xs s3) : lcG vs t mYes elt (d :: r) s = .ok (x :: xs) s3 := by
  rw [lcG, h]
  show (Rs.ok true s1).bind _ = _
  simp only [bind_ok, if_true]
  rw [he]
  simp only [bind_ok]
  rw [hr]
  rfl
end DL

namespace DL
open PySem PySem.Spec L2
theorem sels_lc {a0 a2 : Sl} {r : Sts} : ∀ (ks : List D) (L : List Nat), ∃ (ss : List Sel) (L' : List Nat), ss.length = ks.length ∧ (∀ s ∈ ss, GS 4 s) ∧ lcG [3] (tName 3) mYes e_law_1 ks (a0 :: .own (L.map nat) :: a2 :: .un :: r) = .ok (ss.map sD) (a0 :: .own (L'.map nat) :: a2 :: .un :: r)
  | [], L => ⟨[], L, rfl, (fun _ h => by cases h), rfl⟩
  | k :: ks, L => by
    obtain ⟨s, L1, hs, q⟩ := selector_eq L (n := 4) (by decide) (by decide)
    obtain ⟨ss, L', k1, k2, k3⟩ := sels_lc (a0 := a0) (a2 := a2) (r := r) ks L1
    refine ⟨s :: ss, L', by rw [List.length_cons, List.length_cons, k1], fun x hx => ?_, ?_⟩
    · rcases List.mem_cons.mp hx with e | hx
      · rw [e]; exact hs
      · exact k2 x hx
    · refine lc_cons (s1 := a0 :: .own (L.map nat) :: a2 :: .dat k :: r) (s2 := a0 :: .own (L1.map nat) :: a2 :: .dat k :: r) rfl ?_ k3
      unfold e_law_1
      have q : F_law_selector [.own (L.map nat), .dat (.int 4)] = _ := q
      simp only [mVar, mC, mMap, mMap2, lift_some, lift_none, bind_ok, bind_err, bind_bad, mCons, mNil, mT, asB_bool, asB, mAnd, mOr, mNot, andV_eq, orV_eq, mNotV, mIf, chain_eq, chK_b, mCall, sSeq, sNext, sIf, sRet, sRetN, sDrop, sAsg, sRaise, sFor, sApp, sOwn, setO, ownAt, mOwn1, mPop0, sFrz, frz, sAug, ex_ok, ex_err, ex_bad, then_nx, then_ret, then_brk, then_ct, then_err, optG_some, optG_none, tName, setD, tTupG, tsCons, tsNil, Option.bind_some, List.getElem?_cons_zero, List.getElem?_cons_succ, List.set_cons_zero, List.set_cons_succ, List.length_cons, List.length_nil, Bool.not_true, Bool.not_false, Bool.false_eq_true, if_true, if_false, reduceIte, List.map_cons, List.map_nil, List.cons_append, List.nil_append, List.replicate, Nat.reduceSub, Nat.reduceAdd, Nat.reduceEqDiff, Option.map_some, Option.map_none, outs, Int.reduceAdd, Int.reduceSub, Int.reduceBEq, Int.reduceLT, Int.reduceLE, decide_true, decide_false, beq_self_eq_true, cast_0, cast_1, cast_2, cast_3, cast_4, cast_5, isi_str, isi_tup, addD_i, addI_i, subD_i, leD_i, leD_s, ltD_i, ltD_s, gtD_i, geD_i, eqD_i, neD_i, eqD_b, neD_b, eqD_s, lenD_l, lenD_t, absD_i, intD_i, tupD_l, tupD_t, lstD_l, lstD_t, mkT_0, mkT_1, mkT_2, mkT_3, mkL_0, mkL_1, sized_0, sized_1, ix_0, ix_1, ix_2, isT_t, isT_s, isT_l, isT_i, isT_n, isS_s, isS_t, isS_l, isS_i, isS_n, neD_s, Kd.inj, Mk.inj, Lk.inj, s_km, s_mk, List.length_append, L_c, L_i, L_n, L_a, L_cc, L_ic, L_ii, L_nc, L_ni, L_nn, L_ac, L_ai, L_an, L_aa, mCallO, q]
theorem missing_eq (doc : El) (s : Sel) : F_law_missing [.dat (eD doc), .dat (sD s)] = .ok (.bool true) [.dat (eD doc), .dat (sD s)] := by
  have hn : doc.at [doc.c.length] = none := by rw [at_cons, List.getElem?_eq_none (Nat.le_refl _)]; rfl
  have q := matches_none (s := s) hn
  have e : plD [doc.c.length] = .tuple [nat doc.c.length] := rfl
  rw [e] at q
  refine run_x (s := ?_) (st := [.dat (eD doc), .dat (sD s)]) ?_ ?_
  rotate_left
  · unfold g_law_missing sTry
    simp only [mVar, mC, mMap, mMap2, lift_some, lift_none, bind_ok, bind_err, bind_bad, mCons, mNil, mT, asB_bool, asB, mAnd, mOr, mNot, andV_eq, orV_eq, mNotV, mIf, chain_eq, chK_b, mCall, sSeq, sNext, sIf, sRet, sRetN, sDrop, sAsg, sRaise, sFor, sApp, sOwn, setO, ownAt, mOwn1, mPop0, sFrz, frz, sAug, ex_ok, ex_err, ex_bad, then_nx, then_ret, then_brk, then_ct, then_err, optG_some, optG_none, tName, setD, tTupG, tsCons, tsNil, Option.bind_some, List.getElem?_cons_zero, List.getElem?_cons_succ, List.set_cons_zero, List.set_cons_succ, List.length_cons, List.length_nil, Bool.not_true, Bool.not_false, Bool.false_eq_true, if_true, if_false, reduceIte, List.map_cons, List.map_nil, List.cons_append, List.nil_append, List.replicate, Nat.reduceSub, Nat.reduceAdd, Nat.reduceEqDiff, Option.map_some, Option.map_none, outs, Int.reduceAdd, Int.reduceSub, Int.reduceBEq, Int.reduceLT, Int.reduceLE, decide_true, decide_false, beq_self_eq_true, cast_0, cast_1, cast_2, cast_3, cast_4, cast_5, isi_str, isi_tup, addD_i, addI_i, subD_i, leD_i, leD_s, ltD_i, ltD_s, gtD_i, geD_i, eqD_i, neD_i, eqD_b, neD_b, eqD_s, lenD_l, lenD_t, absD_i, intD_i, tupD_l, tupD_t, lstD_l, lstD_t, mkT_0, mkT_1, mkT_2, mkT_3, mkL_0, mkL_1, sized_0, sized_1, ix_0, ix_1, ix_2, isT_t, isT_s, isT_l, isT_i, isT_n, isS_s, isS_t, isS_l, isS_i, isS_n, neD_s, Kd.inj, Mk.inj, Lk.inj, s_km, s_mk, List.length_append, L_c, L_i, L_n, L_a, L_cc, L_ic, L_ii, L_nc, L_ni, L_nn, L_ac, L_ai, L_an, L_aa, eD_2, List.length_map, q]
    rfl
  · rfl
abbrev tabD (doc : El) (s : Sel) : D := rowD ((places doc).map (mt doc s))
theorem tab_ix {doc : El} {s : Sel} {i : Nat} (h : i < (places doc).length) : ixD (tabD doc s) (nat i) = some (.bool (mt doc s ((places doc).getD i []))) := by
  rw [row_ix (by rw [List.length_map]; exact h), List.getD_eq_getElem?_getD, List.getElem?_map, List.getD_eq_getElem?_getD, List.getElem?_eq_getElem h]
  rfl
theorem get_mem {α : Type} {xs : List α} {i : Nat} {d : α} (h : i < xs.length) : xs.getD i d ∈ xs ∧ xs[i]? = some (xs.getD i d) := by
  have e : xs[i]? = some (xs.getD i d) := by rw [List.getD_eq_getElem?_getD, List.getElem?_eq_getElem h]; rfl
  exact ⟨List.mem_of_getElem? e, e⟩
abbrev lS (scr : D) (L : List Nat) (ss : List Sel) (z3 : Sl) (doc : El) (z7 z8 z9 z10 : Sl) : Sts := [.dat scr, .own (L.map nat), .dat (.tuple (ss.map sD)), z3, .dat (eD doc), .dat (.list ((places doc).map plD)), .dat (.list (ss.map (tabD doc))), z7, z8, z9, z10, .un]
theorem loops {scr : D} {L : List Nat} {ss : List Sel} {doc : El} {z10 : Sl} (hb : Bd doc) (hs : ∀ s ∈ ss, GS 4 s) (hz : (places doc).length ≤ 900) (hl : ss.length ≤ 100) :
    ∃ z3 z8 z9, NO z3 ∧ NO z8 ∧ NO z9 ∧ forG (tName 3) b_law_4 ((List.range ss.length).map nat) (lS scr L ss .un doc .un .un .un z10) = .nx (lS scr L ss z3 doc .un z8 z9 z10) := by
  have iT : isiD "bool" (.bool true) = some (.bool true) ∧ isiD "bool" (.bool false) = some (.bool true) := ⟨by kernel_rfl, by kernel_rfl⟩
  have iB : ∀ b : Bool, isiD "bool" (.bool b) = some (.bool true) := fun b => match b with | true => iT.1 | false => iT.2
  have inner : ∀ (k : Nat) (s : Sel), ss[k]? = some s → ∀ z8 z9, NO z8 → NO z9 → ∃ y8 y9, NO y8 ∧ NO y9 ∧ forG (tName 8) b_law_3 ((List.range (places doc).length).map nat) (lS scr L ss (.dat (nat k)) doc .un z8 z9 z10) = .nx (lS scr L ss (.dat (nat k)) doc .un y8 y9 z10) := by
    intro k s hk z8 z9 h8 h9
    have hm := List.mem_of_getElem? hk
    have i1 : ixD (.tuple (ss.map sD)) (nat k) = some (sD s) := ix_nat (by rw [List.getElem?_map, hk]; rfl)
    have i2 : ixD (.list (ss.map (tabD doc))) (nat k) = some (tabD doc s) := ixl_nat (by rw [List.getElem?_map, hk]; rfl)
    obtain ⟨s', e1, y8, y9, k8, k9, rfl⟩ := for_list (t := tName 8) (body := b_law_3) nat (fun _ st => ∃ z8 z9, NO z8 ∧ NO z9 ∧ st = lS scr L ss (.dat (nat k)) doc .un z8 z9 z10) (List.range (places doc).length) 0 (lS scr L ss (.dat (nat k)) doc .un z8 z9 z10) ⟨z8, z9, h8, h9, rfl⟩ fun i x st hx ⟨z8, z9, h8, h9, hst⟩ => by
      obtain ⟨hi, rfl⟩ := range_get hx
      subst hst
      obtain ⟨hp, hp2⟩ := get_mem (d := ([] : List Nat)) hi
      have i3 : ixD (.list ((places doc).map plD)) (nat x) = some (plD ((places doc).getD x [])) := ixl_nat (by rw [List.getElem?_map, hp2]; rfl)
      have q := matches_eq hb ((hs s hm).fine (by decide)) (places_ok doc _ hp)
      have i4 := tab_ix (s := s) hi
      generalize (places doc).getD x [] = p at i3 q i4
      refine ⟨_, lS scr L ss (.dat (nat k)) doc .un (.dat (nat x)) (.dat (.bool (mt doc s p))) z10, set_no h8 rfl, ?_, _, _, no_dat _, no_dat _, rfl⟩
      have t9 : ∀ d, tName 9 d (lS scr L ss (.dat (nat k)) doc .un (.dat (nat x)) z9 z10) = some (lS scr L ss (.dat (nat k)) doc .un (.dat (nat x)) (.dat d) z10) := fun d => set_no h9 rfl
      show b_law_3 (lS scr L ss (.dat (nat k)) doc .un (.dat (nat x)) z9 z10) = _
      unfold b_law_3
      refine (seq_nx (s1 := lS scr L ss (.dat (nat k)) doc .un (.dat (nat x)) (.dat (.bool (mt doc s p))) z10) ?_).trans ?_
      · unfold sAsg
        rw [show (mCall 3 F_matches (mCons (mVar 4) (mCons (mMap2 (mVar 5) (mVar 8) ixD) (mCons (mMap2 (mVar 2) (mVar 3) ixD) mNil)))) (lS scr L ss (.dat (nat k)) doc .un (.dat (nat x)) z9 z10) = .ok (.bool (mt doc s p)) (lS scr L ss (.dat (nat k)) doc .un (.dat (nat x)) z9 z10) from by simp only [mVar, mC, mMap, mMap2, lift_some, lift_none, bind_ok, bind_err, bind_bad, mCons, mNil, mT, asB_bool, asB, mAnd, mOr, mNot, andV_eq, orV_eq, mNotV, mIf, chain_eq, chK_b, mCall, sSeq, sNext, sIf, sRet, sRetN, sDrop, sAsg, sRaise, sFor, sApp, sOwn, setO, ownAt, mOwn1, mPop0, sFrz, frz, sAug, ex_ok, ex_err, ex_bad, then_nx, then_ret, then_brk, then_ct, then_err, optG_some, optG_none, tName, setD, tTupG, tsCons, tsNil, Option.bind_some, List.getElem?_cons_zero, List.getElem?_cons_succ, List.set_cons_zero, List.set_cons_succ, List.length_cons, List.length_nil, Bool.not_true, Bool.not_false, Bool.false_eq_true, if_true, if_false, reduceIte, List.map_cons, List.map_nil, List.cons_append, List.nil_append, List.replicate, Nat.reduceSub, Nat.reduceAdd, Nat.reduceEqDiff, Option.map_some, Option.map_none, outs, Int.reduceAdd, Int.reduceSub, Int.reduceBEq, Int.reduceLT, Int.reduceLE, decide_true, decide_false, beq_self_eq_true, cast_0, cast_1, cast_2, cast_3, cast_4, cast_5, isi_str, isi_tup, addD_i, addI_i, subD_i, leD_i, leD_s, ltD_i, ltD_s, gtD_i, geD_i, eqD_i, neD_i, eqD_b, neD_b, eqD_s, lenD_l, lenD_t, absD_i, intD_i, tupD_l, tupD_t, lstD_l, lstD_t, mkT_0, mkT_1, mkT_2, mkT_3, mkL_0, mkL_1, sized_0, sized_1, ix_0, ix_1, ix_2, isT_t, isT_s, isT_l, isT_i, isT_n, isS_s, isS_t, isS_l, isS_i, isS_n, neD_s, Kd.inj, Mk.inj, Lk.inj, s_km, s_mk, List.length_append, L_c, L_i, L_n, L_a, L_cc, L_ic, L_ii, L_nc, L_ni, L_nn, L_ac, L_ai, L_an, L_aa, i3, i1, q]]
        simp only [ex_ok, t9, optG_some]
      · simp only [mVar, mC, mMap, mMap2, lift_some, lift_none, bind_ok, bind_err, bind_bad, mCons, mNil, mT, asB_bool, asB, mAnd, mOr, mNot, andV_eq, orV_eq, mNotV, mIf, chain_eq, chK_b, mCall, sSeq, sNext, sIf, sRet, sRetN, sDrop, sAsg, sRaise, sFor, sApp, sOwn, setO, ownAt, mOwn1, mPop0, sFrz, frz, sAug, ex_ok, ex_err, ex_bad, then_nx, then_ret, then_brk, then_ct, then_err, optG_some, optG_none, tName, setD, tTupG, tsCons, tsNil, Option.bind_some, List.getElem?_cons_zero, List.getElem?_cons_succ, List.set_cons_zero, List.set_cons_succ, List.length_cons, List.length_nil, Bool.not_true, Bool.not_false, Bool.false_eq_true, if_true, if_false, reduceIte, List.map_cons, List.map_nil, List.cons_append, List.nil_append, List.replicate, Nat.reduceSub, Nat.reduceAdd, Nat.reduceEqDiff, Option.map_some, Option.map_none, outs, Int.reduceAdd, Int.reduceSub, Int.reduceBEq, Int.reduceLT, Int.reduceLE, decide_true, decide_false, beq_self_eq_true, cast_0, cast_1, cast_2, cast_3, cast_4, cast_5, isi_str, isi_tup, addD_i, addI_i, subD_i, leD_i, leD_s, ltD_i, ltD_s, gtD_i, geD_i, eqD_i, neD_i, eqD_b, neD_b, eqD_s, lenD_l, lenD_t, absD_i, intD_i, tupD_l, tupD_t, lstD_l, lstD_t, mkT_0, mkT_1, mkT_2, mkT_3, mkL_0, mkL_1, sized_0, sized_1, ix_0, ix_1, ix_2, isT_t, isT_s, isT_l, isT_i, isT_n, isS_s, isS_t, isS_l, isS_i, isS_n, neD_s, Kd.inj, Mk.inj, Lk.inj, s_km, s_mk, List.length_append, L_c, L_i, L_n, L_a, L_cc, L_ic, L_ii, L_nc, L_ni, L_nn, L_ac, L_ai, L_an, L_aa, iB, i2, i4, beq_self_eq_true]
    exact ⟨y8, y9, k8, k9, e1⟩
  have hr : rng1 [nat (places doc).length] = some ((List.range (places doc).length).map nat) := rng_nat (by omega)
  obtain ⟨s', e1, y3, y8, y9, k3, k8, k9, rfl⟩ := for_list (t := tName 3) (body := b_law_4) nat (fun _ st => ∃ z3 z8 z9, NO z3 ∧ NO z8 ∧ NO z9 ∧ st = lS scr L ss z3 doc .un z8 z9 z10) (List.range ss.length) 0 (lS scr L ss .un doc .un .un .un z10) ⟨.un, .un, .un, no_un, no_un, no_un, rfl⟩ fun i x st hx ⟨z3, z8, z9, h3, h8, h9, hst⟩ => by
    obtain ⟨hi, rfl⟩ := range_get hx
    subst hst
    obtain ⟨y8, y9, k8, k9, e2⟩ := inner x ss[x] (List.getElem?_eq_getElem hi) z8 z9 h8 h9
    refine ⟨_, lS scr L ss (.dat (nat x)) doc .un y8 y9 z10, set_no h3 rfl, ?_, _, _, _, no_dat _, k8, k9, rfl⟩
    show b_law_4 (lS scr L ss (.dat (nat x)) doc .un z8 z9 z10) = _
    rw [← e2]
    unfold b_law_4
    simp only [mVar, mC, mMap, mMap2, lift_some, lift_none, bind_ok, bind_err, bind_bad, mCons, mNil, mT, asB_bool, asB, mAnd, mOr, mNot, andV_eq, orV_eq, mNotV, mIf, chain_eq, chK_b, mCall, sSeq, sNext, sIf, sRet, sRetN, sDrop, sAsg, sRaise, sFor, sApp, sOwn, setO, ownAt, mOwn1, mPop0, sFrz, frz, sAug, ex_ok, ex_err, ex_bad, then_nx, then_ret, then_brk, then_ct, then_err, optG_some, optG_none, tName, setD, tTupG, tsCons, tsNil, Option.bind_some, List.getElem?_cons_zero, List.getElem?_cons_succ, List.set_cons_zero, List.set_cons_succ, List.length_cons, List.length_nil, Bool.not_true, Bool.not_false, Bool.false_eq_true, if_true, if_false, reduceIte, List.map_cons, List.map_nil, List.cons_append, List.nil_append, List.replicate, Nat.reduceSub, Nat.reduceAdd, Nat.reduceEqDiff, Option.map_some, Option.map_none, outs, Int.reduceAdd, Int.reduceSub, Int.reduceBEq, Int.reduceLT, Int.reduceLE, decide_true, decide_false, beq_self_eq_true, cast_0, cast_1, cast_2, cast_3, cast_4, cast_5, isi_str, isi_tup, addD_i, addI_i, subD_i, leD_i, leD_s, ltD_i, ltD_s, gtD_i, geD_i, eqD_i, neD_i, eqD_b, neD_b, eqD_s, lenD_l, lenD_t, absD_i, intD_i, tupD_l, tupD_t, lstD_l, lstD_t, mkT_0, mkT_1, mkT_2, mkT_3, mkL_0, mkL_1, sized_0, sized_1, ix_0, ix_1, ix_2, isT_t, isT_s, isT_l, isT_i, isT_n, isS_s, isS_t, isS_l, isS_i, isS_n, neD_s, Kd.inj, Mk.inj, Lk.inj, s_km, s_mk, List.length_append, L_c, L_i, L_n, L_a, L_cc, L_ic, L_ii, L_nc, L_ni, L_nn, L_ac, L_ai, L_an, L_aa, List.length_map, hr]
  exact ⟨y3, y8, y9, k3, k8, k9, e1⟩
theorem the_law (ns : List Int) (hn : ns.length ≤ 63) (_hb : ∀ z ∈ ns, Builtin.Int.intBits z ≤ 1048576) : ∃ ss', F_law [.dat (.list (ns.map .int))] = .ok (.bool true) ss' := by
  obtain ⟨L, dq⟩ := draws_eq 100 hn
  have dq : F_law_draws [.dat (.list (ns.map .int)), .dat (.int 0), .dat (.int 100)] = _ := dq
  generalize PyData.list (ns.map .int) = scr at dq
  have nx := next_eq L
  generalize L.headD 0 = c0 at nx
  generalize L.tail = L1 at nx
  have m3 : modD (nat c0) (.int 3) = some (nat (c0 % 3)) := mod_nat c0 3 (by decide)
  have hc : c0 % 3 < 3 := Nat.mod_lt _ (by decide)
  generalize c0 % 3 = c at m3 hc
  have e1 : (1 : Int) + (c : Int) = ((c + 1 : Nat) : Int) := by omega
  have hr : rng1 [nat (c + 1)] = some ((List.range (c + 1)).map nat) := rng_nat (by omega)
  obtain ⟨ss, L2, k1, k2, k3⟩ := sels_lc (a0 := .dat scr) (a2 := .un) (r := [.un, .un, .un, .un, .un, .un, .un, .un]) ((List.range (c + 1)).map nat) L1
  rw [List.length_map, List.length_range] at k1
  have hz1 : ss.length ≤ sizeLine := small_line (by omega)
  obtain ⟨doc, L3, hD, dq2⟩ := element_eq 6 4 L2 (by decide) (by decide)
  have dq2 : F_law_element 6 [.own (L2.map nat), .dat (.int 4)] = .ok (eD doc) [.own (L3.map nat), .dat (.int 4)] := dq2
  have hdep := hD.dep
  have hsz := hD.sz
  have hnb : nb 4 = 121 := rfl
  rw [hnb] at hsz
  have hb : Bd doc := ⟨by omega, by omega⟩
  have hpl := places_len doc
  have pq := places_eq 7 doc (by omega) (by decide) (by omega)
  have hmt : ∀ s ∈ ss, F_law_matched [.dat (eD doc), .dat (sD s)] = .ok (tabD doc s) [.dat (eD doc), .dat (sD s)] := fun s h => by
    rw [matched_eq ((k2 s h).ok (by decide)) (by omega) (by omega), fnd_mt (k2 s h).ll]
  have lcT := lc_typed (vs := [7]) (t := tName 7) (elt := e_law_2) (s := [.dat scr, .own (L3.map nat), .dat (.tuple (ss.map sD)), .un, .dat (eD doc), .dat (.list ((places doc).map plD)), .un, .un, .un, .un, .un, .un]) sD (tabD doc) (xs := ss) fun s h => ⟨[.dat scr, .own (L3.map nat), .dat (.tuple (ss.map sD)), .un, .dat (eD doc), .dat (.list ((places doc).map plD)), .un, .dat (sD s), .un, .un, .un, .un], rfl, by
    unfold e_law_2
    simp only [mVar, mC, mMap, mMap2, lift_some, lift_none, bind_ok, bind_err, bind_bad, mCons, mNil, mT, asB_bool, asB, mAnd, mOr, mNot, andV_eq, orV_eq, mNotV, mIf, chain_eq, chK_b, mCall, sSeq, sNext, sIf, sRet, sRetN, sDrop, sAsg, sRaise, sFor, sApp, sOwn, setO, ownAt, mOwn1, mPop0, sFrz, frz, sAug, ex_ok, ex_err, ex_bad, then_nx, then_ret, then_brk, then_ct, then_err, optG_some, optG_none, tName, setD, tTupG, tsCons, tsNil, Option.bind_some, List.getElem?_cons_zero, List.getElem?_cons_succ, List.set_cons_zero, List.set_cons_succ, List.length_cons, List.length_nil, Bool.not_true, Bool.not_false, Bool.false_eq_true, if_true, if_false, reduceIte, List.map_cons, List.map_nil, List.cons_append, List.nil_append, List.replicate, Nat.reduceSub, Nat.reduceAdd, Nat.reduceEqDiff, Option.map_some, Option.map_none, outs, Int.reduceAdd, Int.reduceSub, Int.reduceBEq, Int.reduceLT, Int.reduceLE, decide_true, decide_false, beq_self_eq_true, cast_0, cast_1, cast_2, cast_3, cast_4, cast_5, isi_str, isi_tup, addD_i, addI_i, subD_i, leD_i, leD_s, ltD_i, ltD_s, gtD_i, geD_i, eqD_i, neD_i, eqD_b, neD_b, eqD_s, lenD_l, lenD_t, absD_i, intD_i, tupD_l, tupD_t, lstD_l, lstD_t, mkT_0, mkT_1, mkT_2, mkT_3, mkL_0, mkL_1, sized_0, sized_1, ix_0, ix_1, ix_2, isT_t, isT_s, isT_l, isT_i, isT_n, isS_s, isS_t, isS_l, isS_i, isS_n, neD_s, Kd.inj, Mk.inj, Lk.inj, s_km, s_mk, List.length_append, L_c, L_i, L_n, L_a, L_cc, L_ic, L_ii, L_nc, L_ni, L_nn, L_ac, L_ai, L_an, L_aa, hmt s h], rfl⟩
  have iS : items (.tuple (ss.map sD)) = some (ss.map sD) := rfl
  obtain ⟨z3, z8, z9, h3, h8, h9, lp1⟩ := loops (scr := scr) (L := L3) (z10 := .un) hb k2 (by omega) (by omega)
  have hrs : rng1 [nat ss.length] = some ((List.range ss.length).map nat) := rng_nat (by omega)
  have hrp : rng1 [nat (places doc).length] = some ((List.range (places doc).length).map nat) := rng_nat (by omega)
  have lcE := lc_filter (vs := [8]) (t := tName 8) (test := t_law_7) (elt := e_law_6) (s := lS scr L3 ss z3 doc .un .un z9 .un) nat (fun i => plD ((places doc).getD i [])) (fun i => ss.any fun s => mt doc s ((places doc).getD i [])) (xs := List.range (places doc).length) fun i hi => by
    have hi := List.mem_range.mp hi
    obtain ⟨hp, hp2⟩ := get_mem (d := ([] : List Nat)) hi
    have i3 : ixD (.list ((places doc).map plD)) (nat i) = some (plD ((places doc).getD i [])) := ixl_nat (by rw [List.getElem?_map, hp2]; rfl)
    have lcB := lc_typed (vs := [11]) (t := tName 11) (elt := e_law_5) (s := lS scr L3 ss z3 doc .un (.dat (nat i)) z9 .un) (tabD doc) (fun s => .bool (mt doc s ((places doc).getD i []))) (xs := ss) fun s h => ⟨[.dat scr, .own (L3.map nat), .dat (.tuple (ss.map sD)), z3, .dat (eD doc), .dat (.list ((places doc).map plD)), .dat (.list (ss.map (tabD doc))), .un, .dat (nat i), z9, .un, .dat (tabD doc s)], rfl, by
      unfold e_law_5
      simp only [mVar, mC, mMap, mMap2, lift_some, lift_none, bind_ok, bind_err, bind_bad, mCons, mNil, mT, asB_bool, asB, mAnd, mOr, mNot, andV_eq, orV_eq, mNotV, mIf, chain_eq, chK_b, mCall, sSeq, sNext, sIf, sRet, sRetN, sDrop, sAsg, sRaise, sFor, sApp, sOwn, setO, ownAt, mOwn1, mPop0, sFrz, frz, sAug, ex_ok, ex_err, ex_bad, then_nx, then_ret, then_brk, then_ct, then_err, optG_some, optG_none, tName, setD, tTupG, tsCons, tsNil, Option.bind_some, List.getElem?_cons_zero, List.getElem?_cons_succ, List.set_cons_zero, List.set_cons_succ, List.length_cons, List.length_nil, Bool.not_true, Bool.not_false, Bool.false_eq_true, if_true, if_false, reduceIte, List.map_cons, List.map_nil, List.cons_append, List.nil_append, List.replicate, Nat.reduceSub, Nat.reduceAdd, Nat.reduceEqDiff, Option.map_some, Option.map_none, outs, Int.reduceAdd, Int.reduceSub, Int.reduceBEq, Int.reduceLT, Int.reduceLE, decide_true, decide_false, beq_self_eq_true, cast_0, cast_1, cast_2, cast_3, cast_4, cast_5, isi_str, isi_tup, addD_i, addI_i, subD_i, leD_i, leD_s, ltD_i, ltD_s, gtD_i, geD_i, eqD_i, neD_i, eqD_b, neD_b, eqD_s, lenD_l, lenD_t, absD_i, intD_i, tupD_l, tupD_t, lstD_l, lstD_t, mkT_0, mkT_1, mkT_2, mkT_3, mkL_0, mkL_1, sized_0, sized_1, ix_0, ix_1, ix_2, isT_t, isT_s, isT_l, isT_i, isT_n, isS_s, isS_t, isS_l, isS_i, isS_n, neD_s, Kd.inj, Mk.inj, Lk.inj, s_km, s_mk, List.length_append, L_c, L_i, L_n, L_a, L_cc, L_ic, L_ii, L_nc, L_ni, L_nn, L_ac, L_ai, L_an, L_aa, tab_ix (s := s) hi], rfl⟩
    have iB : items (.list (ss.map (tabD doc))) = some (ss.map (tabD doc)) := rfl
    have w11 : ∀ a b c d e f g h i j k l : Sl, wipeS [a, b, c, d, e, f, g, h, i, j, k, l] [11] = [a, b, c, d, e, f, g, h, i, j, k, .un] := fun _ _ _ _ _ _ _ _ _ _ _ _ => rfl
    have n11 : ∀ a b c d e f g h i j k : Sl, noOwn [11] [a, b, c, d, e, f, g, h, i, j, k, .un] = true := fun _ _ _ _ _ _ _ _ _ _ _ => rfl
    have u11 : ∀ a b c d e f g h i j k a' b' c' d' e' f' g' h' i' j' k' : Sl, putS [a, b, c, d, e, f, g, h, i, j, k, .un] [a', b', c', d', e', f', g', h', i', j', k', .un] [11] = [a', b', c', d', e', f', g', h', i', j', k', .un] := fun _ _ _ _ _ _ _ _ _ _ _ _ _ _ _ _ _ _ _ _ _ _ => rfl
    refine ⟨lS scr L3 ss z3 doc .un (.dat (nat i)) z9 .un, rfl, ?_, fun _ => ?_, rfl⟩
    · have ib := in_bools (ss.map fun s => mt doc s ((places doc).getD i []))
      rw [List.map_map, List.any_map] at ib
      have ib : inD (.bool true) (.list (ss.map fun s => PyData.bool (mt doc s ((places doc).getD i [])))) = some (.bool (ss.any fun s => mt doc s ((places doc).getD i []))) := ib
      unfold t_law_7
      simp only [mVar, mC, mMap, mMap2, lift_some, lift_none, bind_ok, bind_err, bind_bad, mCons, mNil, mT, asB_bool, asB, mAnd, mOr, mNot, andV_eq, orV_eq, mNotV, mIf, chain_eq, chK_b, mCall, sSeq, sNext, sIf, sRet, sRetN, sDrop, sAsg, sRaise, sFor, sApp, sOwn, setO, ownAt, mOwn1, mPop0, sFrz, frz, sAug, ex_ok, ex_err, ex_bad, then_nx, then_ret, then_brk, then_ct, then_err, optG_some, optG_none, tName, setD, tTupG, tsCons, tsNil, Option.bind_some, List.getElem?_cons_zero, List.getElem?_cons_succ, List.set_cons_zero, List.set_cons_succ, List.length_cons, List.length_nil, Bool.not_true, Bool.not_false, Bool.false_eq_true, if_true, if_false, reduceIte, List.map_cons, List.map_nil, List.cons_append, List.nil_append, List.replicate, Nat.reduceSub, Nat.reduceAdd, Nat.reduceEqDiff, Option.map_some, Option.map_none, outs, Int.reduceAdd, Int.reduceSub, Int.reduceBEq, Int.reduceLT, Int.reduceLE, decide_true, decide_false, beq_self_eq_true, cast_0, cast_1, cast_2, cast_3, cast_4, cast_5, isi_str, isi_tup, addD_i, addI_i, subD_i, leD_i, leD_s, ltD_i, ltD_s, gtD_i, geD_i, eqD_i, neD_i, eqD_b, neD_b, eqD_s, lenD_l, lenD_t, absD_i, intD_i, tupD_l, tupD_t, lstD_l, lstD_t, mkT_0, mkT_1, mkT_2, mkT_3, mkL_0, mkL_1, sized_0, sized_1, ix_0, ix_1, ix_2, isT_t, isT_s, isT_l, isT_i, isT_n, isS_s, isS_t, isS_l, isS_i, isS_n, neD_s, Kd.inj, Mk.inj, Lk.inj, s_km, s_mk, List.length_append, L_c, L_i, L_n, L_a, L_cc, L_ic, L_ii, L_nc, L_ni, L_nn, L_ac, L_ai, L_an, L_aa, mL, mLc, iB, w11, n11, lcB, List.length_map, hz1, u11, ib]
    · unfold e_law_6
      simp only [mVar, mC, mMap, mMap2, lift_some, lift_none, bind_ok, bind_err, bind_bad, mCons, mNil, mT, asB_bool, asB, mAnd, mOr, mNot, andV_eq, orV_eq, mNotV, mIf, chain_eq, chK_b, mCall, sSeq, sNext, sIf, sRet, sRetN, sDrop, sAsg, sRaise, sFor, sApp, sOwn, setO, ownAt, mOwn1, mPop0, sFrz, frz, sAug, ex_ok, ex_err, ex_bad, then_nx, then_ret, then_brk, then_ct, then_err, optG_some, optG_none, tName, setD, tTupG, tsCons, tsNil, Option.bind_some, List.getElem?_cons_zero, List.getElem?_cons_succ, List.set_cons_zero, List.set_cons_succ, List.length_cons, List.length_nil, Bool.not_true, Bool.not_false, Bool.false_eq_true, if_true, if_false, reduceIte, List.map_cons, List.map_nil, List.cons_append, List.nil_append, List.replicate, Nat.reduceSub, Nat.reduceAdd, Nat.reduceEqDiff, Option.map_some, Option.map_none, outs, Int.reduceAdd, Int.reduceSub, Int.reduceBEq, Int.reduceLT, Int.reduceLE, decide_true, decide_false, beq_self_eq_true, cast_0, cast_1, cast_2, cast_3, cast_4, cast_5, isi_str, isi_tup, addD_i, addI_i, subD_i, leD_i, leD_s, ltD_i, ltD_s, gtD_i, geD_i, eqD_i, neD_i, eqD_b, neD_b, eqD_s, lenD_l, lenD_t, absD_i, intD_i, tupD_l, tupD_t, lstD_l, lstD_t, mkT_0, mkT_1, mkT_2, mkT_3, mkL_0, mkL_1, sized_0, sized_1, ix_0, ix_1, ix_2, isT_t, isT_s, isT_l, isT_i, isT_n, isS_s, isS_t, isS_l, isS_i, isS_n, neD_s, Kd.inj, Mk.inj, Lk.inj, s_km, s_mk, List.length_append, L_c, L_i, L_n, L_a, L_cc, L_ic, L_ii, L_nc, L_ni, L_nn, L_ac, L_ai, L_an, L_aa, i3]
  rw [range_filter (places doc) [] (fun p => ss.any fun s => mt doc s p) plD] at lcE
  have mq := matching_eq hb (by omega) (ss := ss) fun s h => (k2 s h).fine (by decide)
  have mq0 := matching_eq hb (by omega) (ss := []) fun s h => by cases h
  have mq0 : F_matching [.dat (eD doc), .dat (.tuple [])] = .ok (.list []) [.dat (eD doc), .dat (.tuple [])] := by
    have e : ((places doc).filter fun p => ([] : List Sel).any fun s => mt doc s p) = [] := List.filter_eq_nil_iff.mpr fun _ _ => Bool.false_ne_true
    rw [e] at mq0
    exact mq0
  have eq1 := eq_refl' (lay_pls ((places doc).filter fun p => ss.any fun s => mt doc s p)).shaped
  have eq0 : eqD (.list []) (.list []) = some (.bool true) := eq_refl' (lay_pls []).shaped
  have hs0 : 0 < ss.length := by omega
  have ix0 : ixD (.tuple (ss.map sD)) (.int 0) = some (sD ss[0]) := ixD_t (k := 0) (by rw [List.getElem?_map, List.getElem?_eq_getElem hs0]; rfl)
  have mi := missing_eq doc ss[0]
  have hzf : ((places doc).filter fun p => ss.any fun s => mt doc s p).length ≤ sizeLine := small_line (by
    have := List.length_filter_le (fun p => ss.any fun s => mt doc s p) (places doc)
    omega)
  have w3 : ∀ a b c d e f g h i j k l : Sl, wipeS [a, b, c, d, e, f, g, h, i, j, k, l] [3] = [a, b, c, .un, e, f, g, h, i, j, k, l] := fun _ _ _ _ _ _ _ _ _ _ _ _ => rfl
  have n3 : ∀ a b c e f g h i j k l : Sl, noOwn [3] [a, b, c, .un, e, f, g, h, i, j, k, l] = true := fun _ _ _ _ _ _ _ _ _ _ _ => rfl
  have u3 : ∀ a b c e f g h i j k l a' b' c' e' f' g' h' i' j' k' l' : Sl, putS [a, b, c, .un, e, f, g, h, i, j, k, l] [a', b', c', .un, e', f', g', h', i', j', k', l'] [3] = [a', b', c', .un, e', f', g', h', i', j', k', l'] := fun _ _ _ _ _ _ _ _ _ _ _ _ _ _ _ _ _ _ _ _ _ _ => rfl
  have w7 : ∀ a b c d e f g h i j k l : Sl, wipeS [a, b, c, d, e, f, g, h, i, j, k, l] [7] = [a, b, c, d, e, f, g, .un, i, j, k, l] := fun _ _ _ _ _ _ _ _ _ _ _ _ => rfl
  have n7 : ∀ a b c d e f g i j k l : Sl, noOwn [7] [a, b, c, d, e, f, g, .un, i, j, k, l] = true := fun _ _ _ _ _ _ _ _ _ _ _ => rfl
  have u7 : ∀ a b c d e f g i j k l a' b' c' d' e' f' g' i' j' k' l' : Sl, putS [a, b, c, d, e, f, g, .un, i, j, k, l] [a', b', c', d', e', f', g', .un, i', j', k', l'] [7] = [a', b', c', d', e', f', g', .un, i', j', k', l'] := fun _ _ _ _ _ _ _ _ _ _ _ _ _ _ _ _ _ _ _ _ _ _ => rfl
  refine ⟨_, run_ret (st := [.dat scr, .un, .un, .un, .un, .un, .un, .un, .un, .un, .un, .un]) (s := lS scr L3 ss z3 doc .un z8 z9 (.dat (.list (((places doc).filter fun p => ss.any fun s => mt doc s p).map plD)))) ?_ rfl rfl⟩
  unfold g_law
  refine Eq.trans (seq_nx (s1 := [.dat scr, .own (L.map nat), .un, .un, .un, .un, .un, .un, .un, .un, .un, .un]) (by simp only [mVar, mC, mMap, mMap2, lift_some, lift_none, bind_ok, bind_err, bind_bad, mCons, mNil, mT, asB_bool, asB, mAnd, mOr, mNot, andV_eq, orV_eq, mNotV, mIf, chain_eq, chK_b, mCall, sSeq, sNext, sIf, sRet, sRetN, sDrop, sAsg, sRaise, sFor, sApp, sOwn, setO, ownAt, mOwn1, mPop0, sFrz, frz, sAug, ex_ok, ex_err, ex_bad, then_nx, then_ret, then_brk, then_ct, then_err, optG_some, optG_none, tName, setD, tTupG, tsCons, tsNil, Option.bind_some, List.getElem?_cons_zero, List.getElem?_cons_succ, List.set_cons_zero, List.set_cons_succ, List.length_cons, List.length_nil, Bool.not_true, Bool.not_false, Bool.false_eq_true, if_true, if_false, reduceIte, List.map_cons, List.map_nil, List.cons_append, List.nil_append, List.replicate, Nat.reduceSub, Nat.reduceAdd, Nat.reduceEqDiff, Option.map_some, Option.map_none, outs, Int.reduceAdd, Int.reduceSub, Int.reduceBEq, Int.reduceLT, Int.reduceLE, decide_true, decide_false, beq_self_eq_true, cast_0, cast_1, cast_2, cast_3, cast_4, cast_5, isi_str, isi_tup, addD_i, addI_i, subD_i, leD_i, leD_s, ltD_i, ltD_s, gtD_i, geD_i, eqD_i, neD_i, eqD_b, neD_b, eqD_s, lenD_l, lenD_t, absD_i, intD_i, tupD_l, tupD_t, lstD_l, lstD_t, mkT_0, mkT_1, mkT_2, mkT_3, mkL_0, mkL_1, sized_0, sized_1, ix_0, ix_1, ix_2, isT_t, isT_s, isT_l, isT_i, isT_n, isS_s, isS_t, isS_l, isS_i, isS_n, neD_s, Kd.inj, Mk.inj, Lk.inj, s_km, s_mk, List.length_append, L_c, L_i, L_n, L_a, L_cc, L_ic, L_ii, L_nc, L_ni, L_nn, L_ac, L_ai, L_an, L_aa, mCallL, dq])) ?_
  refine Eq.trans (seq_nx (s1 := [.dat scr, .own (L2.map nat), .dat (.tuple (ss.map sD)), .un, .un, .un, .un, .un, .un, .un, .un, .un]) ?_) ?_
  · simp only [mVar, mC, mMap, mMap2, lift_some, lift_none, bind_ok, bind_err, bind_bad, mCons, mNil, mT, asB_bool, asB, mAnd, mOr, mNot, andV_eq, orV_eq, mNotV, mIf, chain_eq, chK_b, mCall, sSeq, sNext, sIf, sRet, sRetN, sDrop, sAsg, sRaise, sFor, sApp, sOwn, setO, ownAt, mOwn1, mPop0, sFrz, frz, sAug, ex_ok, ex_err, ex_bad, then_nx, then_ret, then_brk, then_ct, then_err, optG_some, optG_none, tName, setD, tTupG, tsCons, tsNil, Option.bind_some, List.getElem?_cons_zero, List.getElem?_cons_succ, List.set_cons_zero, List.set_cons_succ, List.length_cons, List.length_nil, Bool.not_true, Bool.not_false, Bool.false_eq_true, if_true, if_false, reduceIte, List.map_cons, List.map_nil, List.cons_append, List.nil_append, List.replicate, Nat.reduceSub, Nat.reduceAdd, Nat.reduceEqDiff, Option.map_some, Option.map_none, outs, Int.reduceAdd, Int.reduceSub, Int.reduceBEq, Int.reduceLT, Int.reduceLE, decide_true, decide_false, beq_self_eq_true, cast_0, cast_1, cast_2, cast_3, cast_4, cast_5, isi_str, isi_tup, addD_i, addI_i, subD_i, leD_i, leD_s, ltD_i, ltD_s, gtD_i, geD_i, eqD_i, neD_i, eqD_b, neD_b, eqD_s, lenD_l, lenD_t, absD_i, intD_i, tupD_l, tupD_t, lstD_l, lstD_t, mkT_0, mkT_1, mkT_2, mkT_3, mkL_0, mkL_1, sized_0, sized_1, ix_0, ix_1, ix_2, isT_t, isT_s, isT_l, isT_i, isT_n, isS_s, isS_t, isS_l, isS_i, isS_n, neD_s, Kd.inj, Mk.inj, Lk.inj, s_km, s_mk, List.length_append, L_c, L_i, L_n, L_a, L_cc, L_ic, L_ii, L_nc, L_ni, L_nn, L_ac, L_ai, L_an, L_aa, mL, mLc, mCallO, nx, m3, e1, hr, w3, n3, k3, List.length_map, hz1, u3]
  refine Eq.trans (seq_nx (s1 := [.dat scr, .own (L3.map nat), .dat (.tuple (ss.map sD)), .un, .dat (eD doc), .un, .un, .un, .un, .un, .un, .un]) (by simp only [mVar, mC, mMap, mMap2, lift_some, lift_none, bind_ok, bind_err, bind_bad, mCons, mNil, mT, asB_bool, asB, mAnd, mOr, mNot, andV_eq, orV_eq, mNotV, mIf, chain_eq, chK_b, mCall, sSeq, sNext, sIf, sRet, sRetN, sDrop, sAsg, sRaise, sFor, sApp, sOwn, setO, ownAt, mOwn1, mPop0, sFrz, frz, sAug, ex_ok, ex_err, ex_bad, then_nx, then_ret, then_brk, then_ct, then_err, optG_some, optG_none, tName, setD, tTupG, tsCons, tsNil, Option.bind_some, List.getElem?_cons_zero, List.getElem?_cons_succ, List.set_cons_zero, List.set_cons_succ, List.length_cons, List.length_nil, Bool.not_true, Bool.not_false, Bool.false_eq_true, if_true, if_false, reduceIte, List.map_cons, List.map_nil, List.cons_append, List.nil_append, List.replicate, Nat.reduceSub, Nat.reduceAdd, Nat.reduceEqDiff, Option.map_some, Option.map_none, outs, Int.reduceAdd, Int.reduceSub, Int.reduceBEq, Int.reduceLT, Int.reduceLE, decide_true, decide_false, beq_self_eq_true, cast_0, cast_1, cast_2, cast_3, cast_4, cast_5, isi_str, isi_tup, addD_i, addI_i, subD_i, leD_i, leD_s, ltD_i, ltD_s, gtD_i, geD_i, eqD_i, neD_i, eqD_b, neD_b, eqD_s, lenD_l, lenD_t, absD_i, intD_i, tupD_l, tupD_t, lstD_l, lstD_t, mkT_0, mkT_1, mkT_2, mkT_3, mkL_0, mkL_1, sized_0, sized_1, ix_0, ix_1, ix_2, isT_t, isT_s, isT_l, isT_i, isT_n, isS_s, isS_t, isS_l, isS_i, isS_n, neD_s, Kd.inj, Mk.inj, Lk.inj, s_km, s_mk, List.length_append, L_c, L_i, L_n, L_a, L_cc, L_ic, L_ii, L_nc, L_ni, L_nn, L_ac, L_ai, L_an, L_aa, mCallO, dq2])) ?_
  refine Eq.trans (seq_nx (s1 := [.dat scr, .own (L3.map nat), .dat (.tuple (ss.map sD)), .un, .dat (eD doc), .dat (.list ((places doc).map plD)), .un, .un, .un, .un, .un, .un]) (by simp only [mVar, mC, mMap, mMap2, lift_some, lift_none, bind_ok, bind_err, bind_bad, mCons, mNil, mT, asB_bool, asB, mAnd, mOr, mNot, andV_eq, orV_eq, mNotV, mIf, chain_eq, chK_b, mCall, sSeq, sNext, sIf, sRet, sRetN, sDrop, sAsg, sRaise, sFor, sApp, sOwn, setO, ownAt, mOwn1, mPop0, sFrz, frz, sAug, ex_ok, ex_err, ex_bad, then_nx, then_ret, then_brk, then_ct, then_err, optG_some, optG_none, tName, setD, tTupG, tsCons, tsNil, Option.bind_some, List.getElem?_cons_zero, List.getElem?_cons_succ, List.set_cons_zero, List.set_cons_succ, List.length_cons, List.length_nil, Bool.not_true, Bool.not_false, Bool.false_eq_true, if_true, if_false, reduceIte, List.map_cons, List.map_nil, List.cons_append, List.nil_append, List.replicate, Nat.reduceSub, Nat.reduceAdd, Nat.reduceEqDiff, Option.map_some, Option.map_none, outs, Int.reduceAdd, Int.reduceSub, Int.reduceBEq, Int.reduceLT, Int.reduceLE, decide_true, decide_false, beq_self_eq_true, cast_0, cast_1, cast_2, cast_3, cast_4, cast_5, isi_str, isi_tup, addD_i, addI_i, subD_i, leD_i, leD_s, ltD_i, ltD_s, gtD_i, geD_i, eqD_i, neD_i, eqD_b, neD_b, eqD_s, lenD_l, lenD_t, absD_i, intD_i, tupD_l, tupD_t, lstD_l, lstD_t, mkT_0, mkT_1, mkT_2, mkT_3, mkL_0, mkL_1, sized_0, sized_1, ix_0, ix_1, ix_2, isT_t, isT_s, isT_l, isT_i, isT_n, isS_s, isS_t, isS_l, isS_i, isS_n, neD_s, Kd.inj, Mk.inj, Lk.inj, s_km, s_mk, List.length_append, L_c, L_i, L_n, L_a, L_cc, L_ic, L_ii, L_nc, L_ni, L_nn, L_ac, L_ai, L_an, L_aa, pq])) ?_
  refine Eq.trans (seq_nx (s1 := lS scr L3 ss .un doc .un .un .un .un) ?_) ?_
  · simp only [mVar, mC, mMap, mMap2, lift_some, lift_none, bind_ok, bind_err, bind_bad, mCons, mNil, mT, asB_bool, asB, mAnd, mOr, mNot, andV_eq, orV_eq, mNotV, mIf, chain_eq, chK_b, mCall, sSeq, sNext, sIf, sRet, sRetN, sDrop, sAsg, sRaise, sFor, sApp, sOwn, setO, ownAt, mOwn1, mPop0, sFrz, frz, sAug, ex_ok, ex_err, ex_bad, then_nx, then_ret, then_brk, then_ct, then_err, optG_some, optG_none, tName, setD, tTupG, tsCons, tsNil, Option.bind_some, List.getElem?_cons_zero, List.getElem?_cons_succ, List.set_cons_zero, List.set_cons_succ, List.length_cons, List.length_nil, Bool.not_true, Bool.not_false, Bool.false_eq_true, if_true, if_false, reduceIte, List.map_cons, List.map_nil, List.cons_append, List.nil_append, List.replicate, Nat.reduceSub, Nat.reduceAdd, Nat.reduceEqDiff, Option.map_some, Option.map_none, outs, Int.reduceAdd, Int.reduceSub, Int.reduceBEq, Int.reduceLT, Int.reduceLE, decide_true, decide_false, beq_self_eq_true, cast_0, cast_1, cast_2, cast_3, cast_4, cast_5, isi_str, isi_tup, addD_i, addI_i, subD_i, leD_i, leD_s, ltD_i, ltD_s, gtD_i, geD_i, eqD_i, neD_i, eqD_b, neD_b, eqD_s, lenD_l, lenD_t, absD_i, intD_i, tupD_l, tupD_t, lstD_l, lstD_t, mkT_0, mkT_1, mkT_2, mkT_3, mkL_0, mkL_1, sized_0, sized_1, ix_0, ix_1, ix_2, isT_t, isT_s, isT_l, isT_i, isT_n, isS_s, isS_t, isS_l, isS_i, isS_n, neD_s, Kd.inj, Mk.inj, Lk.inj, s_km, s_mk, List.length_append, L_c, L_i, L_n, L_a, L_cc, L_ic, L_ii, L_nc, L_ni, L_nn, L_ac, L_ai, L_an, L_aa, mL, mLc, iS, w7, n7, lcT, List.length_map, hz1, u7]
  refine Eq.trans (seq_nx (s1 := lS scr L3 ss z3 doc .un z8 z9 .un) ?_) ?_
  · rw [← lp1]
    simp only [mVar, mC, mMap, mMap2, lift_some, lift_none, bind_ok, bind_err, bind_bad, mCons, mNil, mT, asB_bool, asB, mAnd, mOr, mNot, andV_eq, orV_eq, mNotV, mIf, chain_eq, chK_b, mCall, sSeq, sNext, sIf, sRet, sRetN, sDrop, sAsg, sRaise, sFor, sApp, sOwn, setO, ownAt, mOwn1, mPop0, sFrz, frz, sAug, ex_ok, ex_err, ex_bad, then_nx, then_ret, then_brk, then_ct, then_err, optG_some, optG_none, tName, setD, tTupG, tsCons, tsNil, Option.bind_some, List.getElem?_cons_zero, List.getElem?_cons_succ, List.set_cons_zero, List.set_cons_succ, List.length_cons, List.length_nil, Bool.not_true, Bool.not_false, Bool.false_eq_true, if_true, if_false, reduceIte, List.map_cons, List.map_nil, List.cons_append, List.nil_append, List.replicate, Nat.reduceSub, Nat.reduceAdd, Nat.reduceEqDiff, Option.map_some, Option.map_none, outs, Int.reduceAdd, Int.reduceSub, Int.reduceBEq, Int.reduceLT, Int.reduceLE, decide_true, decide_false, beq_self_eq_true, cast_0, cast_1, cast_2, cast_3, cast_4, cast_5, isi_str, isi_tup, addD_i, addI_i, subD_i, leD_i, leD_s, ltD_i, ltD_s, gtD_i, geD_i, eqD_i, neD_i, eqD_b, neD_b, eqD_s, lenD_l, lenD_t, absD_i, intD_i, tupD_l, tupD_t, lstD_l, lstD_t, mkT_0, mkT_1, mkT_2, mkT_3, mkL_0, mkL_1, sized_0, sized_1, ix_0, ix_1, ix_2, isT_t, isT_s, isT_l, isT_i, isT_n, isS_s, isS_t, isS_l, isS_i, isS_n, neD_s, Kd.inj, Mk.inj, Lk.inj, s_km, s_mk, List.length_append, L_c, L_i, L_n, L_a, L_cc, L_ic, L_ii, L_nc, L_ni, L_nn, L_ac, L_ai, L_an, L_aa, List.length_map, hrs]
  have n8 : ∀ a b c d e f g h j k l : Sl, noOwn [8] [a, b, c, d, e, f, g, h, z8, j, k, l] = true := fun _ _ _ _ _ _ _ _ _ _ _ => by cases z8 <;> first | rfl | exact h8.elim
  have w8 : ∀ a b c d e f g h i j k l : Sl, wipeS [a, b, c, d, e, f, g, h, i, j, k, l] [8] = [a, b, c, d, e, f, g, h, .un, j, k, l] := fun _ _ _ _ _ _ _ _ _ _ _ _ => rfl
  have u8 : ∀ a b c d e f g h i j k l a' b' c' d' e' f' g' h' i' j' k' l' : Sl, putS [a, b, c, d, e, f, g, h, i, j, k, l] [a', b', c', d', e', f', g', h', i', j', k', l'] [8] = [a', b', c', d', e', f', g', h', i, j', k', l'] := fun _ _ _ _ _ _ _ _ _ _ _ _ _ _ _ _ _ _ _ _ _ _ _ _ => rfl
  refine Eq.trans (seq_nx (s1 := lS scr L3 ss z3 doc .un z8 z9 (.dat (.list (((places doc).filter fun p => ss.any fun s => mt doc s p).map plD)))) ?_) ?_
  · simp only [mVar, mC, mMap, mMap2, lift_some, lift_none, bind_ok, bind_err, bind_bad, mCons, mNil, mT, asB_bool, asB, mAnd, mOr, mNot, andV_eq, orV_eq, mNotV, mIf, chain_eq, chK_b, mCall, sSeq, sNext, sIf, sRet, sRetN, sDrop, sAsg, sRaise, sFor, sApp, sOwn, setO, ownAt, mOwn1, mPop0, sFrz, frz, sAug, ex_ok, ex_err, ex_bad, then_nx, then_ret, then_brk, then_ct, then_err, optG_some, optG_none, tName, setD, tTupG, tsCons, tsNil, Option.bind_some, List.getElem?_cons_zero, List.getElem?_cons_succ, List.set_cons_zero, List.set_cons_succ, List.length_cons, List.length_nil, Bool.not_true, Bool.not_false, Bool.false_eq_true, if_true, if_false, reduceIte, List.map_cons, List.map_nil, List.cons_append, List.nil_append, List.replicate, Nat.reduceSub, Nat.reduceAdd, Nat.reduceEqDiff, Option.map_some, Option.map_none, outs, Int.reduceAdd, Int.reduceSub, Int.reduceBEq, Int.reduceLT, Int.reduceLE, decide_true, decide_false, beq_self_eq_true, cast_0, cast_1, cast_2, cast_3, cast_4, cast_5, isi_str, isi_tup, addD_i, addI_i, subD_i, leD_i, leD_s, ltD_i, ltD_s, gtD_i, geD_i, eqD_i, neD_i, eqD_b, neD_b, eqD_s, lenD_l, lenD_t, absD_i, intD_i, tupD_l, tupD_t, lstD_l, lstD_t, mkT_0, mkT_1, mkT_2, mkT_3, mkL_0, mkL_1, sized_0, sized_1, ix_0, ix_1, ix_2, isT_t, isT_s, isT_l, isT_i, isT_n, isS_s, isS_t, isS_l, isS_i, isS_n, neD_s, Kd.inj, Mk.inj, Lk.inj, s_km, s_mk, List.length_append, L_c, L_i, L_n, L_a, L_cc, L_ic, L_ii, L_nc, L_ni, L_nn, L_ac, L_ai, L_an, L_aa, mL, mLc, List.length_map, hrp, w8, n8, lcE, hzf, u8]
  simp only [mVar, mC, mMap, mMap2, lift_some, lift_none, bind_ok, bind_err, bind_bad, mCons, mNil, mT, asB_bool, asB, mAnd, mOr, mNot, andV_eq, orV_eq, mNotV, mIf, chain_eq, chK_b, mCall, sSeq, sNext, sIf, sRet, sRetN, sDrop, sAsg, sRaise, sFor, sApp, sOwn, setO, ownAt, mOwn1, mPop0, sFrz, frz, sAug, ex_ok, ex_err, ex_bad, then_nx, then_ret, then_brk, then_ct, then_err, optG_some, optG_none, tName, setD, tTupG, tsCons, tsNil, Option.bind_some, List.getElem?_cons_zero, List.getElem?_cons_succ, List.set_cons_zero, List.set_cons_succ, List.length_cons, List.length_nil, Bool.not_true, Bool.not_false, Bool.false_eq_true, if_true, if_false, reduceIte, List.map_cons, List.map_nil, List.cons_append, List.nil_append, List.replicate, Nat.reduceSub, Nat.reduceAdd, Nat.reduceEqDiff, Option.map_some, Option.map_none, outs, Int.reduceAdd, Int.reduceSub, Int.reduceBEq, Int.reduceLT, Int.reduceLE, decide_true, decide_false, beq_self_eq_true, cast_0, cast_1, cast_2, cast_3, cast_4, cast_5, isi_str, isi_tup, addD_i, addI_i, subD_i, leD_i, leD_s, ltD_i, ltD_s, gtD_i, geD_i, eqD_i, neD_i, eqD_b, neD_b, eqD_s, lenD_l, lenD_t, absD_i, intD_i, tupD_l, tupD_t, lstD_l, lstD_t, mkT_0, mkT_1, mkT_2, mkT_3, mkL_0, mkL_1, sized_0, sized_1, ix_0, ix_1, ix_2, isT_t, isT_s, isT_l, isT_i, isT_n, isS_s, isS_t, isS_l, isS_i, isS_n, neD_s, Kd.inj, Mk.inj, Lk.inj, s_km, s_mk, List.length_append, L_c, L_i, L_n, L_a, L_cc, L_ic, L_ii, L_nc, L_ni, L_nn, L_ac, L_ai, L_an, L_aa, mq, eq1, mq0, eq0, ix0, mi]
end DL

namespace DL
open PySem PySem.Spec L2
def caOf (l : List (Str × Addr)) (y : Str) : Addr := (l.lookup y).getD 0
section
theorem all_mk {l : PySem.W.OpenLaw} {w : World} {K : PySem.W.Frag} {h : Heap} {mg mb : Str → Option Value} {fa : Addr} {q : Program} {ls : List Str} {mean : ExcName → Option Value} (Tp : PyProof.Rows.Top q ls mean mg mb h) (X : K.In h) (hfa : mg "law" = some (.ref fa))
    {f1 : Addr} {od1 an1 : Option Addr} {sl1 : Array (Option Value)} {oc1 kV1 dc1 pm1 cd1 ct1 : Value} {f2 : Addr} {od2 an2 : Option Addr} {sl2 : Array (Option Value)} {oc2 kV2 dc2 pm2 cd2 ct2 : Value} {f3 : Addr} {od3 an3 : Option Addr} {sl3 : Array (Option Value)} {oc3 kV3 dc3 pm3 cd3 ct3 : Value} {f4 : Addr} {od4 an4 : Option Addr} {sl4 : Array (Option Value)} {oc4 kV4 dc4 pm4 cd4 ct4 : Value} {f5 : Addr} {od5 an5 : Option Addr} {sl5 : Array (Option Value)} {oc5 kV5 dc5 pm5 cd5 ct5 : Value} {f6 : Addr} {od6 an6 : Option Addr} {sl6 : Array (Option Value)} {oc6 kV6 dc6 pm6 cd6 ct6 : Value} {f7 : Addr} {od7 an7 : Option Addr} {sl7 : Array (Option Value)} {oc7 kV7 dc7 pm7 cd7 ct7 : Value} {f8 : Addr} {od8 an8 : Option Addr} {sl8 : Array (Option Value)} {oc8 kV8 dc8 pm8 cd8 ct8 : Value} {f9 : Addr} {od9 an9 : Option Addr} {sl9 : Array (Option Value)} {oc9 kV9 dc9 pm9 ct9 : Value} {cc9 PT9 : Addr} {od9x : Option Addr} {oc9x : Value} {vs9x : Array Value} {sl9x : Array (Option Value)} {f10 : Addr} {od10 an10 : Option Addr} {sl10 : Array (Option Value)} {oc10 kV10 dc10 pm10 cd10 ct10 : Value} {f11 : Addr} {od11 an11 : Option Addr} {sl11 : Array (Option Value)} {oc11 kV11 dc11 pm11 cd11 ct11 : Value} {f12 : Addr} {od12 an12 : Option Addr} {sl12 : Array (Option Value)} {oc12 kV12 dc12 pm12 cd12 ct12 : Value} {f13 : Addr} {od13 an13 : Option Addr} {sl13 : Array (Option Value)} {oc13 kV13 dc13 pm13 cd13 ct13 : Value} {f14 : Addr} {od14 an14 : Option Addr} {sl14 : Array (Option Value)} {oc14 kV14 dc14 pm14 cd14 ct14 : Value} {f15 : Addr} {od15 an15 : Option Addr} {sl15 : Array (Option Value)} {oc15 kV15 dc15 pm15 cd15 ct15 : Value} {f16 : Addr} {od16 an16 : Option Addr} {sl16 : Array (Option Value)} {oc16 kV16 dc16 pm16 cd16 ct16 : Value} {f17 : Addr} {od17 an17 : Option Addr} {sl17 : Array (Option Value)} {oc17 kV17 dc17 pm17 cd17 ct17 : Value} {f18 : Addr} {od18 an18 : Option Addr} {sl18 : Array (Option Value)} {oc18 kV18 dc18 pm18 cd18 ct18 : Value} {f19 : Addr} {od19 an19 : Option Addr} {sl19 : Array (Option Value)} {oc19 kV19 dc19 pm19 cd19 ct19 : Value} {f20 : Addr} {od20 an20 : Option Addr} {sl20 : Array (Option Value)} {oc20 kV20 dc20 pm20 cd20 ct20 : Value} {f21 : Addr} {od21 an21 : Option Addr} {sl21 : Array (Option Value)} {oc21 kV21 dc21 pm21 cd21 ct21 : Value} {C_BadPlace : Addr}
    (a1 : PySem.W.nsIn K mainGlobals "element_at" = some (some (.ref f1)))
    (l1 : K.lookup f1 = some ⟨oc1, od1, .func (PySem.W.fnOf "element_at" "element_at" (defArgs s_element_at) (defBody s_element_at) (defScope s_element_at) .none kV1 dc1 pm1 an1 cd1 ct1), sl1⟩)
    (c1 : PySem.W.codeIn K cd1 "element_at" = true)
    (k1 : PySem.W.keepIn K (.ref f1) = true)
    (a2 : PySem.W.nsIn K mainGlobals "places" = some (some (.ref f2)))
    (l2 : K.lookup f2 = some ⟨oc2, od2, .func (PySem.W.fnOf "places" "places" (defArgs s_places) (defBody s_places) (defScope s_places) .none kV2 dc2 pm2 an2 cd2 ct2), sl2⟩)
    (c2 : PySem.W.codeIn K cd2 "places" = true)
    (k2 : PySem.W.keepIn K (.ref f2) = true)
    (a3 : PySem.W.nsIn K mainGlobals "fits_number" = some (some (.ref f3)))
    (l3 : K.lookup f3 = some ⟨oc3, od3, .func (PySem.W.fnOf "fits_number" "fits_number" (defArgs s_fits_number) (defBody s_fits_number) (defScope s_fits_number) .none kV3 dc3 pm3 an3 cd3 ct3), sl3⟩)
    (c3 : PySem.W.codeIn K cd3 "fits_number" = true)
    (k3 : PySem.W.keepIn K (.ref f3) = true)
    (a4 : PySem.W.nsIn K mainGlobals "fits" = some (some (.ref f4)))
    (l4 : K.lookup f4 = some ⟨oc4, od4, .func (PySem.W.fnOf "fits" "fits" (defArgs s_fits) (defBody s_fits) (defScope s_fits) .none kV4 dc4 pm4 an4 cd4 ct4), sl4⟩)
    (c4 : PySem.W.codeIn K cd4 "fits" = true)
    (k4 : PySem.W.keepIn K (.ref f4) = true)
    (a5 : PySem.W.nsIn K mainGlobals "number_of" = some (some (.ref f5)))
    (l5 : K.lookup f5 = some ⟨oc5, od5, .func (PySem.W.fnOf "number_of" "number_of" (defArgs s_number_of) (defBody s_number_of) (defScope s_number_of) .none kV5 dc5 pm5 an5 cd5 ct5), sl5⟩)
    (c5 : PySem.W.codeIn K cd5 "number_of" = true)
    (k5 : PySem.W.keepIn K (.ref f5) = true)
    (a6 : PySem.W.nsIn K mainGlobals "linked_places" = some (some (.ref f6)))
    (l6 : K.lookup f6 = some ⟨oc6, od6, .func (PySem.W.fnOf "linked_places" "linked_places" (defArgs s_linked_places) (defBody s_linked_places) (defScope s_linked_places) .none kV6 dc6 pm6 an6 cd6 ct6), sl6⟩)
    (c6 : PySem.W.codeIn K cd6 "linked_places" = true)
    (k6 : PySem.W.keepIn K (.ref f6) = true)
    (a7 : PySem.W.nsIn K mainGlobals "matches_parts" = some (some (.ref f7)))
    (l7 : K.lookup f7 = some ⟨oc7, od7, .func (PySem.W.fnOf "matches_parts" "matches_parts" (defArgs s_matches_parts) (defBody s_matches_parts) (defScope s_matches_parts) .none kV7 dc7 pm7 an7 cd7 ct7), sl7⟩)
    (c7 : PySem.W.codeIn K cd7 "matches_parts" = true)
    (k7 : PySem.W.keepIn K (.ref f7) = true)
    (a8 : PySem.W.nsIn K mainGlobals "matches" = some (some (.ref f8)))
    (l8 : K.lookup f8 = some ⟨oc8, od8, .func (PySem.W.fnOf "matches" "matches" (defArgs s_matches) (defBody s_matches) (defScope s_matches) .none kV8 dc8 pm8 an8 cd8 ct8), sl8⟩)
    (c8 : PySem.W.codeIn K cd8 "matches" = true)
    (k8 : PySem.W.keepIn K (.ref f8) = true)
    (a9 : PySem.W.nsIn K mainGlobals "matches_any" = some (some (.ref f9)))
    (l9 : K.lookup f9 = some ⟨oc9, od9, .func (PySem.W.fnOf "matches_any" "matches_any" (defArgs s_matches_any) (defBody s_matches_any) (defScope s_matches_any) .none kV9 dc9 pm9 an9 (.ref cc9) ct9), sl9⟩)
    (c9 : PySem.W.codeIn K (.ref cc9) "matches_any" = true)
    (k9 : PySem.W.keepIn K (.ref f9) = true)
    (t9 : K.lookup cc9 = some ⟨oc9x, od9x, .fields vs9x, sl9x⟩)
    (u9 : (vs9x[11]? : Option Value) = some (.ref PT9))
    (n9 : K.lookup PT9 = none)
    (r9 : ((PyProof.Rows.recsOf q).any fun e => e.name == "matches_any") = true)
    (a10 : PySem.W.nsIn K mainGlobals "matching" = some (some (.ref f10)))
    (l10 : K.lookup f10 = some ⟨oc10, od10, .func (PySem.W.fnOf "matching" "matching" (defArgs s_matching) (defBody s_matching) (defScope s_matching) .none kV10 dc10 pm10 an10 cd10 ct10), sl10⟩)
    (c10 : PySem.W.codeIn K cd10 "matching" = true)
    (k10 : PySem.W.keepIn K (.ref f10) = true)
    (a11 : PySem.W.nsIn K mainGlobals "_law_draws" = some (some (.ref f11)))
    (l11 : K.lookup f11 = some ⟨oc11, od11, .func (PySem.W.fnOf "_law_draws" "_law_draws" (defArgs s_law_draws) (defBody s_law_draws) (defScope s_law_draws) .none kV11 dc11 pm11 an11 cd11 ct11), sl11⟩)
    (c11 : PySem.W.codeIn K cd11 "_law_draws" = true)
    (k11 : PySem.W.keepIn K (.ref f11) = true)
    (a12 : PySem.W.nsIn K mainGlobals "_law_next" = some (some (.ref f12)))
    (l12 : K.lookup f12 = some ⟨oc12, od12, .func (PySem.W.fnOf "_law_next" "_law_next" (defArgs s_law_next) (defBody s_law_next) (defScope s_law_next) .none kV12 dc12 pm12 an12 cd12 ct12), sl12⟩)
    (c12 : PySem.W.codeIn K cd12 "_law_next" = true)
    (k12 : PySem.W.keepIn K (.ref f12) = true)
    (a13 : PySem.W.nsIn K mainGlobals "_law_marks" = some (some (.ref f13)))
    (l13 : K.lookup f13 = some ⟨oc13, od13, .func (PySem.W.fnOf "_law_marks" "_law_marks" (defArgs s_law_marks) (defBody s_law_marks) (defScope s_law_marks) .none kV13 dc13 pm13 an13 cd13 ct13), sl13⟩)
    (c13 : PySem.W.codeIn K cd13 "_law_marks" = true)
    (k13 : PySem.W.keepIn K (.ref f13) = true)
    (a14 : PySem.W.nsIn K mainGlobals "_law_element" = some (some (.ref f14)))
    (l14 : K.lookup f14 = some ⟨oc14, od14, .func (PySem.W.fnOf "_law_element" "_law_element" (defArgs s_law_element) (defBody s_law_element) (defScope s_law_element) .none kV14 dc14 pm14 an14 cd14 ct14), sl14⟩)
    (c14 : PySem.W.codeIn K cd14 "_law_element" = true)
    (k14 : PySem.W.keepIn K (.ref f14) = true)
    (a15 : PySem.W.nsIn K mainGlobals "_law_part" = some (some (.ref f15)))
    (l15 : K.lookup f15 = some ⟨oc15, od15, .func (PySem.W.fnOf "_law_part" "_law_part" (defArgs s_law_part) (defBody s_law_part) (defScope s_law_part) .none kV15 dc15 pm15 an15 cd15 ct15), sl15⟩)
    (c15 : PySem.W.codeIn K cd15 "_law_part" = true)
    (k15 : PySem.W.keepIn K (.ref f15) = true)
    (a16 : PySem.W.nsIn K mainGlobals "_law_selector" = some (some (.ref f16)))
    (l16 : K.lookup f16 = some ⟨oc16, od16, .func (PySem.W.fnOf "_law_selector" "_law_selector" (defArgs s_law_selector) (defBody s_law_selector) (defScope s_law_selector) .none kV16 dc16 pm16 an16 cd16 ct16), sl16⟩)
    (c16 : PySem.W.codeIn K cd16 "_law_selector" = true)
    (k16 : PySem.W.keepIn K (.ref f16) = true)
    (a17 : PySem.W.nsIn K mainGlobals "_law_fits" = some (some (.ref f17)))
    (l17 : K.lookup f17 = some ⟨oc17, od17, .func (PySem.W.fnOf "_law_fits" "_law_fits" (defArgs s_law_fits) (defBody s_law_fits) (defScope s_law_fits) .none kV17 dc17 pm17 an17 cd17 ct17), sl17⟩)
    (c17 : PySem.W.codeIn K cd17 "_law_fits" = true)
    (k17 : PySem.W.keepIn K (.ref f17) = true)
    (a18 : PySem.W.nsIn K mainGlobals "_law_found" = some (some (.ref f18)))
    (l18 : K.lookup f18 = some ⟨oc18, od18, .func (PySem.W.fnOf "_law_found" "_law_found" (defArgs s_law_found) (defBody s_law_found) (defScope s_law_found) .none kV18 dc18 pm18 an18 cd18 ct18), sl18⟩)
    (c18 : PySem.W.codeIn K cd18 "_law_found" = true)
    (k18 : PySem.W.keepIn K (.ref f18) = true)
    (a19 : PySem.W.nsIn K mainGlobals "_law_matched" = some (some (.ref f19)))
    (l19 : K.lookup f19 = some ⟨oc19, od19, .func (PySem.W.fnOf "_law_matched" "_law_matched" (defArgs s_law_matched) (defBody s_law_matched) (defScope s_law_matched) .none kV19 dc19 pm19 an19 cd19 ct19), sl19⟩)
    (c19 : PySem.W.codeIn K cd19 "_law_matched" = true)
    (k19 : PySem.W.keepIn K (.ref f19) = true)
    (a20 : PySem.W.nsIn K mainGlobals "_law_missing" = some (some (.ref f20)))
    (l20 : K.lookup f20 = some ⟨oc20, od20, .func (PySem.W.fnOf "_law_missing" "_law_missing" (defArgs s_law_missing) (defBody s_law_missing) (defScope s_law_missing) .none kV20 dc20 pm20 an20 cd20 ct20), sl20⟩)
    (c20 : PySem.W.codeIn K cd20 "_law_missing" = true)
    (k20 : PySem.W.keepIn K (.ref f20) = true)
    (a21 : PySem.W.nsIn K mainGlobals "law" = some (some (.ref f21)))
    (l21 : K.lookup f21 = some ⟨oc21, od21, .func (PySem.W.fnOf "law" "law" (defArgs s_law) (defBody s_law) (defScope s_law) .none kV21 dc21 pm21 an21 cd21 ct21), sl21⟩)
    (c21 : PySem.W.codeIn K cd21 "law" = true)
    (k21 : PySem.W.keepIn K (.ref f21) = true)
    (x0_BadPlace : PySem.W.nsIn K mainGlobals "BadPlace" = some (some (.ref C_BadPlace)))
    (x1_BadPlace : PySem.W.excIn K C_BadPlace [.type "ValueError", .type "Exception", .type "BaseException", .type "object"] "ValueError.__new__" = true)
    (x2_BadPlace : PySem.W.keepIn K (.ref C_BadPlace) = true)
    (x3_BadPlace : PySem.W.subIn K (.ref C_BadPlace) (.type "BaseException") = some true)
    (x4_BadPlace : PySem.W.typeIn K (.ref C_BadPlace) = some (.type "type"))
    (x5_BadPlace : PySem.W.hasDictIn K C_BadPlace = true)
    (x6_BadPlace_BadPlace : PySem.W.subIn K (.ref C_BadPlace) (.ref C_BadPlace) = some true)
    (b_abs : PySem.W.nsIn K mainGlobals "abs" = some none)
    (b_any : PySem.W.nsIn K mainGlobals "any" = some none)
    (b_bool : PySem.W.nsIn K mainGlobals "bool" = some none)
    (b_int : PySem.W.nsIn K mainGlobals "int" = some none)
    (b_isinstance : PySem.W.nsIn K mainGlobals "isinstance" = some none)
    (b_len : PySem.W.nsIn K mainGlobals "len" = some none)
    (b_range : PySem.W.nsIn K mainGlobals "range" = some none)
    (b_tuple : PySem.W.nsIn K mainGlobals "tuple" = some none)
    (hlaw : ∀ ns : List Int, ns.length ≤ 63 → (∀ z ∈ ns, Builtin.Int.intBits z ≤ 1048576) → ∃ ss', F_law [.dat (.list (ns.map .int))] = .ok (.bool true) ss') :
    LamX.LawAtS l w K (L2.CX l.prog w) 13 63 "_law_script" mg fa h := by
  have G := Tp.g
  have e := hfa.symm.trans (PySem.W.mg_of X G a21)
  cases e
  have hca : ∃ ca : Str → Addr, ca "BadPlace" = C_BadPlace := ⟨caOf [("BadPlace", C_BadPlace)], rfl⟩
  obtain ⟨ca, ca_BadPlace⟩ := hca
  subst ca_BadPlace
  have F1 := fun_mk (st := s_element_at) l1 c1 k1
  have B1 := F1.binds (ps := ["document", "place"]) fun _ _ _ _ _ _ us hl => match us, hl with | [_, _], _ => rfl
  let G_element_at := (⟨f1, _, F1, PySem.W.mg_of X G a1, k1, B1⟩ : Gv K mg "element_at" s_element_at ["document", "place"])
  have F2 := fun_mk (st := s_places) l2 c2 k2
  have B2 := F2.binds (ps := ["document"]) fun _ _ _ _ _ _ us hl => match us, hl with | [_], _ => rfl
  let G_places := (⟨f2, _, F2, PySem.W.mg_of X G a2, k2, B2⟩ : Gv K mg "places" s_places ["document"])
  have F3 := fun_mk (st := s_fits_number) l3 c3 k3
  have B3 := F3.binds (ps := ["step", "first", "number"]) fun _ _ _ _ _ _ us hl => match us, hl with | [_, _, _], _ => rfl
  let G_fits_number := (⟨f3, _, F3, PySem.W.mg_of X G a3, k3, B3⟩ : Gv K mg "fits_number" s_fits_number ["step", "first", "number"])
  have F4 := fun_mk (st := s_fits) l4 c4 k4
  have B4 := F4.binds (ps := ["part", "kind", "marks", "number"]) fun _ _ _ _ _ _ us hl => match us, hl with | [_, _, _, _], _ => rfl
  let G_fits := (⟨f4, _, F4, PySem.W.mg_of X G a4, k4, B4⟩ : Gv K mg "fits" s_fits ["part", "kind", "marks", "number"])
  have F5 := fun_mk (st := s_number_of) l5 c5 k5
  have B5 := F5.binds (ps := ["place"]) fun _ _ _ _ _ _ us hl => match us, hl with | [_], _ => rfl
  let G_number_of := (⟨f5, _, F5, PySem.W.mg_of X G a5, k5, B5⟩ : Gv K mg "number_of" s_number_of ["place"])
  have F6 := fun_mk (st := s_linked_places) l6 c6 k6
  have B6 := F6.binds (ps := ["place", "link"]) fun _ _ _ _ _ _ us hl => match us, hl with | [_, _], _ => rfl
  let G_linked_places := (⟨f6, _, F6, PySem.W.mg_of X G a6, k6, B6⟩ : Gv K mg "linked_places" s_linked_places ["place", "link"])
  have F7 := fun_mk (st := s_matches_parts) l7 c7 k7
  have B7 := F7.binds (ps := ["document", "place", "parts", "links"]) fun _ _ _ _ _ _ us hl => match us, hl with | [_, _, _, _], _ => rfl
  let G_matches_parts := (⟨f7, _, F7, PySem.W.mg_of X G a7, k7, B7⟩ : Gv K mg "matches_parts" s_matches_parts ["document", "place", "parts", "links"])
  have F8 := fun_mk (st := s_matches) l8 c8 k8
  have B8 := F8.binds (ps := ["document", "place", "selector"]) fun _ _ _ _ _ _ us hl => match us, hl with | [_, _, _], _ => rfl
  let G_matches := (⟨f8, _, F8, PySem.W.mg_of X G a8, k8, B8⟩ : Gv K mg "matches" s_matches ["document", "place", "selector"])
  have F9 := fun_mk (st := s_matches_any) l9 c9 k9
  have B9 := F9.binds (ps := ["document", "place", "selectors"]) fun _ _ _ _ _ _ us hl => match us, hl with | [_, _, _], _ => rfl
  let G_matches_any := (⟨(⟨f9, _, F9, PySem.W.mg_of X G a9, k9, B9⟩ : Gv K mg "matches_any" s_matches_any ["document", "place", "selectors"]), cc9, PT9, funC_mk a9 l9 c9 (tab_of_code a9 l9 t9 u9)⟩ : Gt K mg "matches_any" s_matches_any ["document", "place", "selectors"])
  have F10 := fun_mk (st := s_matching) l10 c10 k10
  have B10 := F10.binds (ps := ["document", "selectors"]) fun _ _ _ _ _ _ us hl => match us, hl with | [_, _], _ => rfl
  let G_matching := (⟨f10, _, F10, PySem.W.mg_of X G a10, k10, B10⟩ : Gv K mg "matching" s_matching ["document", "selectors"])
  have F11 := fun_mk (st := s_law_draws) l11 c11 k11
  have B11 := F11.binds (ps := ["_law_script", "_law_start", "_law_most"]) fun _ _ _ _ _ _ us hl => match us, hl with | [_, _, _], _ => rfl
  let G_law_draws := (⟨f11, _, F11, PySem.W.mg_of X G a11, k11, B11⟩ : Gv K mg "_law_draws" s_law_draws ["_law_script", "_law_start", "_law_most"])
  have F12 := fun_mk (st := s_law_next) l12 c12 k12
  have B12 := F12.binds (ps := ["_law_draws_here"]) fun _ _ _ _ _ _ us hl => match us, hl with | [_], _ => rfl
  let G_law_next := (⟨f12, _, F12, PySem.W.mg_of X G a12, k12, B12⟩ : Gv K mg "_law_next" s_law_next ["_law_draws_here"])
  have F13 := fun_mk (st := s_law_marks) l13 c13 k13
  have B13 := F13.binds (ps := ["_law_draw"]) fun _ _ _ _ _ _ us hl => match us, hl with | [_], _ => rfl
  let G_law_marks := (⟨f13, _, F13, PySem.W.mg_of X G a13, k13, B13⟩ : Gv K mg "_law_marks" s_law_marks ["_law_draw"])
  have F14 := fun_mk (st := s_law_element) l14 c14 k14
  have B14 := F14.binds (ps := ["_law_draws_here", "_law_levels"]) fun _ _ _ _ _ _ us hl => match us, hl with | [_, _], _ => rfl
  let G_law_element := (⟨f14, _, F14, PySem.W.mg_of X G a14, k14, B14⟩ : Gv K mg "_law_element" s_law_element ["_law_draws_here", "_law_levels"])
  have F15 := fun_mk (st := s_law_part) l15 c15 k15
  have B15 := F15.binds (ps := ["_law_draw"]) fun _ _ _ _ _ _ us hl => match us, hl with | [_], _ => rfl
  let G_law_part := (⟨f15, _, F15, PySem.W.mg_of X G a15, k15, B15⟩ : Gv K mg "_law_part" s_law_part ["_law_draw"])
  have F16 := fun_mk (st := s_law_selector) l16 c16 k16
  have B16 := F16.binds (ps := ["_law_draws_here", "_law_most"]) fun _ _ _ _ _ _ us hl => match us, hl with | [_, _], _ => rfl
  let G_law_selector := (⟨f16, _, F16, PySem.W.mg_of X G a16, k16, B16⟩ : Gv K mg "_law_selector" s_law_selector ["_law_draws_here", "_law_most"])
  have F17 := fun_mk (st := s_law_fits) l17 c17 k17
  have B17 := F17.binds (ps := ["_law_part_here", "_law_element_here", "_law_number"]) fun _ _ _ _ _ _ us hl => match us, hl with | [_, _, _], _ => rfl
  let G_law_fits := (⟨f17, _, F17, PySem.W.mg_of X G a17, k17, B17⟩ : Gv K mg "_law_fits" s_law_fits ["_law_part_here", "_law_element_here", "_law_number"])
  have F18 := fun_mk (st := s_law_found) l18 c18 k18
  have B18 := F18.binds (ps := ["_law_element_here", "_law_number", "_law_parent", "_law_elder", "_law_selector_here", "_law_rows"]) fun _ _ _ _ _ _ us hl => match us, hl with | [_, _, _, _, _, _], _ => rfl
  let G_law_found := (⟨f18, _, F18, PySem.W.mg_of X G a18, k18, B18⟩ : Gv K mg "_law_found" s_law_found ["_law_element_here", "_law_number", "_law_parent", "_law_elder", "_law_selector_here", "_law_rows"])
  have F19 := fun_mk (st := s_law_matched) l19 c19 k19
  have B19 := F19.binds (ps := ["_law_document", "_law_selector_here"]) fun _ _ _ _ _ _ us hl => match us, hl with | [_, _], _ => rfl
  let G_law_matched := (⟨f19, _, F19, PySem.W.mg_of X G a19, k19, B19⟩ : Gv K mg "_law_matched" s_law_matched ["_law_document", "_law_selector_here"])
  have F20 := fun_mk (st := s_law_missing) l20 c20 k20
  have B20 := F20.binds (ps := ["_law_document", "_law_selector_here"]) fun _ _ _ _ _ _ us hl => match us, hl with | [_, _], _ => rfl
  let G_law_missing := (⟨f20, _, F20, PySem.W.mg_of X G a20, k20, B20⟩ : Gv K mg "_law_missing" s_law_missing ["_law_document", "_law_selector_here"])
  have F21 := fun_mk (st := s_law) l21 c21 k21
  have B21 := F21.binds (ps := ["_law_script"]) fun _ _ _ _ _ _ us hl => match us, hl with | [_], _ => rfl
  let G_law := (⟨fa, _, F21, PySem.W.mg_of X G a21, k21, B21⟩ : Gv K mg "law" s_law ["_law_script"])
  have E : Fa K mg ca := {
    b_abs := PySem.W.mg_none_of X G b_abs
    b_any := PySem.W.mg_none_of X G b_any
    b_bool := PySem.W.mg_none_of X G b_bool
    b_int := PySem.W.mg_none_of X G b_int
    b_isinstance := PySem.W.mg_none_of X G b_isinstance
    b_len := PySem.W.mg_none_of X G b_len
    b_range := PySem.W.mg_none_of X G b_range
    b_tuple := PySem.W.mg_none_of X G b_tuple
    x_BadPlace := ⟨PySem.W.mg_of X G x0_BadPlace, x1_BadPlace, x2_BadPlace, x3_BadPlace, x4_BadPlace⟩
    h_BadPlace := by
      intro y b h
      unfold exm_BadPlace at h
      split at h
      · rename_i e
        subst e
        rw [← Option.some.inj h]
        exact PySem.W.exm_ref x3_BadPlace x5_BadPlace x4_BadPlace x6_BadPlace_BadPlace
      cases h }
  have D9 := tab_any Tp X r9 (tab_of_code a9 l9 t9 u9)
  refine ⟨G_law.fd, [(cc9, PT9)], spF K ([(cc9, PT9)].map (·.2)) ca 1 F_law, fun p hp => ?_, fun p hp => ?_, fun p hp => ?_, fun s v => .of_eq rfl, fun H a ns hl hb hH hS => law_sp hH hS (hlaw ns hl hb), fun base KB GB TB => ?_⟩
  · rw [List.mem_singleton.mp hp]
    exact D9.2
  · rw [List.mem_singleton.mp hp]
    exact n9
  · rw [List.mem_singleton.mp hp]
    exact D9.1
  have mem : ∀ p ∈ [(cc9, PT9)], p.2 ∈ ([(cc9, PT9)].map (·.2)) := fun p hp => List.mem_map.mpr ⟨p, hp, rfl⟩
  have hP_matches_any : PT9 ∈ ([(cc9, PT9)].map (·.2)) := mem (cc9, PT9) (by simp)
  have TB_matches_any := tb_of (TB (cc9, PT9) (by simp))
  generalize hT : ([(cc9, PT9)].map (·.2)) = T at hP_matches_any ⊢
  have P_element_at : FnOk l.prog w K mg base (L2.CX l.prog w) 1 G_element_at.f G_element_at.fd ["document", "place"] (spF K T ca 2 F_element_at) := ok_element_at E G_element_at
  have P_places : FnOk l.prog w K mg base (L2.CX l.prog w) 7 G_places.f G_places.fd ["document"] (spF K T ca 1 (F_places 7)) := ok_places E G_places 7
  have P_fits_number : FnOk l.prog w K mg base (L2.CX l.prog w) 1 G_fits_number.f G_fits_number.fd ["step", "first", "number"] (spF K T ca 3 F_fits_number) := ok_fits_number E G_fits_number
  have P_fits : FnOk l.prog w K mg base (L2.CX l.prog w) 2 G_fits.f G_fits.fd ["part", "kind", "marks", "number"] (spF K T ca 4 F_fits) := ok_fits E G_fits G_fits_number P_fits_number
  have P_number_of : FnOk l.prog w K mg base (L2.CX l.prog w) 1 G_number_of.f G_number_of.fd ["place"] (spF K T ca 1 F_number_of) := ok_number_of E G_number_of
  have P_linked_places : FnOk l.prog w K mg base (L2.CX l.prog w) 1 G_linked_places.f G_linked_places.fd ["place", "link"] (spF K T ca 2 F_linked_places) := ok_linked_places E G_linked_places
  have P_matches_parts : FnOk l.prog w K mg base (L2.CX l.prog w) 7 G_matches_parts.f G_matches_parts.fd ["document", "place", "parts", "links"] (spF K T ca 4 (F_matches_parts 5)) := ok_matches_parts E G_matches_parts G_element_at P_element_at G_fits P_fits G_linked_places P_linked_places G_number_of P_number_of 5
  have P_matches : FnOk l.prog w K mg base (L2.CX l.prog w) 8 G_matches.f G_matches.fd ["document", "place", "selector"] (spF K T ca 3 F_matches) := ok_matches E G_matches G_matches_parts P_matches_parts
  have P_matches_any : FnOk l.prog w K mg base (L2.CX l.prog w) 11 G_matches_any.f G_matches_any.fd ["document", "place", "selectors"] (spF K T ca 3 F_matches_any) := ok_matches_any E G_matches_any hP_matches_any TB_matches_any G_matches P_matches
  have P_matching : FnOk l.prog w K mg base (L2.CX l.prog w) 12 G_matching.f G_matching.fd ["document", "selectors"] (spF K T ca 2 F_matching) := ok_matching E G_matching G_matches_any P_matches_any G_places P_places
  have P_law_draws : FnOk l.prog w K mg base (L2.CX l.prog w) 1 G_law_draws.f G_law_draws.fd ["_law_script", "_law_start", "_law_most"] (spL K T 3 F_law_draws) := ok_law_draws E G_law_draws
  have P_law_next : FnOk l.prog w K mg base (L2.CX l.prog w) 1 G_law_next.f G_law_next.fd ["_law_draws_here"] (spF K T ca 1 F_law_next) := ok_law_next E G_law_next
  have P_law_marks : FnOk l.prog w K mg base (L2.CX l.prog w) 1 G_law_marks.f G_law_marks.fd ["_law_draw"] (spF K T ca 1 F_law_marks) := ok_law_marks E G_law_marks
  have P_law_element : FnOk l.prog w K mg base (L2.CX l.prog w) 7 G_law_element.f G_law_element.fd ["_law_draws_here", "_law_levels"] (spF K T ca 2 (F_law_element 6)) := ok_law_element E G_law_element G_law_marks P_law_marks G_law_next P_law_next 6
  have P_law_part : FnOk l.prog w K mg base (L2.CX l.prog w) 1 G_law_part.f G_law_part.fd ["_law_draw"] (spF K T ca 1 F_law_part) := ok_law_part E G_law_part
  have P_law_selector : FnOk l.prog w K mg base (L2.CX l.prog w) 2 G_law_selector.f G_law_selector.fd ["_law_draws_here", "_law_most"] (spF K T ca 2 F_law_selector) := ok_law_selector E G_law_selector G_law_next P_law_next G_law_part P_law_part
  have P_law_fits : FnOk l.prog w K mg base (L2.CX l.prog w) 1 G_law_fits.f G_law_fits.fd ["_law_part_here", "_law_element_here", "_law_number"] (spF K T ca 3 F_law_fits) := ok_law_fits E G_law_fits
  have P_law_found : FnOk l.prog w K mg base (L2.CX l.prog w) 8 G_law_found.f G_law_found.fd ["_law_element_here", "_law_number", "_law_parent", "_law_elder", "_law_selector_here", "_law_rows"] (spF K T ca 6 (F_law_found 7)) := ok_law_found E G_law_found G_law_fits P_law_fits 7
  have P_law_matched : FnOk l.prog w K mg base (L2.CX l.prog w) 9 G_law_matched.f G_law_matched.fd ["_law_document", "_law_selector_here"] (spF K T ca 2 F_law_matched) := ok_law_matched E G_law_matched G_law_found P_law_found
  have P_law_missing : FnOk l.prog w K mg base (L2.CX l.prog w) 9 G_law_missing.f G_law_missing.fd ["_law_document", "_law_selector_here"] (spF K T ca 2 F_law_missing) := ok_law_missing E G_law_missing G_matches P_matches
  have P_law : FnOk l.prog w K mg base (L2.CX l.prog w) 13 G_law.f G_law.fd ["_law_script"] (spF K T ca 1 F_law) := ok_law E G_law G_law_draws P_law_draws G_law_element P_law_element G_law_matched P_law_matched G_law_missing P_law_missing G_law_next P_law_next G_law_selector P_law_selector G_matches P_matches G_matching P_matching G_places P_places
  exact P_law
end
end DL

open PySem PySem.W PyProof.Rows
set_option maxRecDepth 100000 in
set_option maxHeartbeats 0 in
theorem PySem.Challenge.cw_treegarb_k02_matching_holds : PySem.Challenge.rw_treegarb_k02_matching.Holds := by
  w_on; o_law; k_head; (case hw => w_witness2)
  k_fill
  refine DL.walk_top (l := PySem.Challenge.rw_treegarb_k02_matching) (n := 63) (k := 13) (x := "_law_script") rfl (by decide) rfl ⟨rfl, by decide, by decide⟩ (fun w h Y => PySem.W.kIn_of Y) ?F
  case F =>
    intro w mg mb fa h ls mean Tp KX hmg
    refine' DL.all_mk Tp KX hmg ?a1 ?l1 ?c1 ?k1 ?a2 ?l2 ?c2 ?k2 ?a3 ?l3 ?c3 ?k3 ?a4 ?l4 ?c4 ?k4 ?a5 ?l5 ?c5 ?k5 ?a6 ?l6 ?c6 ?k6 ?a7 ?l7 ?c7 ?k7 ?a8 ?l8 ?c8 ?k8 ?a9 ?l9 ?c9 ?k9 ?t9 ?u9 ?n9 ?r9 ?a10 ?l10 ?c10 ?k10 ?a11 ?l11 ?c11 ?k11 ?a12 ?l12 ?c12 ?k12 ?a13 ?l13 ?c13 ?k13 ?a14 ?l14 ?c14 ?k14 ?a15 ?l15 ?c15 ?k15 ?a16 ?l16 ?c16 ?k16 ?a17 ?l17 ?c17 ?k17 ?a18 ?l18 ?c18 ?k18 ?a19 ?l19 ?c19 ?k19 ?a20 ?l20 ?c20 ?k20 ?a21 ?l21 ?c21 ?k21 ?x0_BadPlace ?x1_BadPlace ?x2_BadPlace ?x3_BadPlace ?x4_BadPlace ?x5_BadPlace ?x6_BadPlace_BadPlace ?b_abs ?b_any ?b_bool ?b_int ?b_isinstance ?b_len ?b_range ?b_tuple DL.the_law
    (case a1 => first | k_is | rfl)
    (case l1 => first | k_is | rfl)
    (case c1 => first | k_is | rfl)
    (case k1 => first | k_is | rfl)
    (case a2 => first | k_is | rfl)
    (case l2 => first | k_is | rfl)
    (case c2 => first | k_is | rfl)
    (case k2 => first | k_is | rfl)
    (case a3 => first | k_is | rfl)
    (case l3 => first | k_is | rfl)
    (case c3 => first | k_is | rfl)
    (case k3 => first | k_is | rfl)
    (case a4 => first | k_is | rfl)
    (case l4 => first | k_is | rfl)
    (case c4 => first | k_is | rfl)
    (case k4 => first | k_is | rfl)
    (case a5 => first | k_is | rfl)
    (case l5 => first | k_is | rfl)
    (case c5 => first | k_is | rfl)
    (case k5 => first | k_is | rfl)
    (case a6 => first | k_is | rfl)
    (case l6 => first | k_is | rfl)
    (case c6 => first | k_is | rfl)
    (case k6 => first | k_is | rfl)
    (case a7 => first | k_is | rfl)
    (case l7 => first | k_is | rfl)
    (case c7 => first | k_is | rfl)
    (case k7 => first | k_is | rfl)
    (case a8 => first | k_is | rfl)
    (case l8 => first | k_is | rfl)
    (case c8 => first | k_is | rfl)
    (case k8 => first | k_is | rfl)
    (case a9 => first | k_is | rfl)
    (case l9 => first | k_is | rfl)
    (case c9 => first | k_is | rfl)
    (case k9 => first | k_is | rfl)
    (case t9 => first | k_is | rfl)
    (case u9 => first | rfl | decide +kernel)
    (case n9 => first | k_is | rfl)
    (case r9 => first | rfl | decide +kernel | k_is)
    (case a10 => first | k_is | rfl)
    (case l10 => first | k_is | rfl)
    (case c10 => first | k_is | rfl)
    (case k10 => first | k_is | rfl)
    (case a11 => first | k_is | rfl)
    (case l11 => first | k_is | rfl)
    (case c11 => first | k_is | rfl)
    (case k11 => first | k_is | rfl)
    (case a12 => first | k_is | rfl)
    (case l12 => first | k_is | rfl)
    (case c12 => first | k_is | rfl)
    (case k12 => first | k_is | rfl)
    (case a13 => first | k_is | rfl)
    (case l13 => first | k_is | rfl)
    (case c13 => first | k_is | rfl)
    (case k13 => first | k_is | rfl)
    (case a14 => first | k_is | rfl)
    (case l14 => first | k_is | rfl)
    (case c14 => first | k_is | rfl)
    (case k14 => first | k_is | rfl)
    (case a15 => first | k_is | rfl)
    (case l15 => first | k_is | rfl)
    (case c15 => first | k_is | rfl)
    (case k15 => first | k_is | rfl)
    (case a16 => first | k_is | rfl)
    (case l16 => first | k_is | rfl)
    (case c16 => first | k_is | rfl)
    (case k16 => first | k_is | rfl)
    (case a17 => first | k_is | rfl)
    (case l17 => first | k_is | rfl)
    (case c17 => first | k_is | rfl)
    (case k17 => first | k_is | rfl)
    (case a18 => first | k_is | rfl)
    (case l18 => first | k_is | rfl)
    (case c18 => first | k_is | rfl)
    (case k18 => first | k_is | rfl)
    (case a19 => first | k_is | rfl)
    (case l19 => first | k_is | rfl)
    (case c19 => first | k_is | rfl)
    (case k19 => first | k_is | rfl)
    (case a20 => first | k_is | rfl)
    (case l20 => first | k_is | rfl)
    (case c20 => first | k_is | rfl)
    (case k20 => first | k_is | rfl)
    (case a21 => first | k_is | rfl)
    (case l21 => first | k_is | rfl)
    (case c21 => first | k_is | rfl)
    (case k21 => first | k_is | rfl)
    (case x0_BadPlace => first | k_is | rfl)
    (case x1_BadPlace => k_exc)
    (case x2_BadPlace => first | k_is | rfl)
    (case x3_BadPlace => first | k_is | rfl)
    (case x4_BadPlace => first | k_is | rfl)
    (case x5_BadPlace => first | k_is | rfl)
    (case x6_BadPlace_BadPlace => first | k_is | rfl)
    (case b_abs => first | k_is | rfl)
    (case b_any => first | k_is | rfl)
    (case b_bool => first | k_is | rfl)
    (case b_int => first | k_is | rfl)
    (case b_isinstance => first | k_is | rfl)
    (case b_len => first | k_is | rfl)
    (case b_range => first | k_is | rfl)
    (case b_tuple => first | k_is | rfl)
#print axioms PySem.Challenge.cw_treegarb_k02_matching_holds

