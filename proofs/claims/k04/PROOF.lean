import PyProof.Rows.All
import Wide.All
import OpenK.AllK
import Wide.FinOn
import HandS.ForExc
import HandS.Comp
import HandS.Evl
import HandS.Deep
import HandS.TupAny
import HandS.IsInst
import HandS.ExcIs
import HandS.Small
import HandS.Text
import HandS.Iter
import HandS.Conv
import KE.KeyNested
import HandS.Lambda
import HandS.TupMul
import HandS.TupLe
import HandS.GenList
import HandS.AnyAll
import HandS.EndTab
import KE.LtData
import KE.SortData
import PyProof.CollectIter
import HandS.Codes
import HandS.More
import KE.SortKeyHeap
import KE.KSortKey
import HandS.SortKw
import PyProof.TableCode
import PySem.Challenge.RW_treegarb_k04_letters_and_walks
set_option Elab.async false
set_option linter.all false
set_option maxRecDepth 100000
set_option maxHeartbeats 4000000
set_option autoImplicit false
/-! The data layer: immutable values as PyData, lists that a def grows as owned slots. -/
namespace DL
open PySem PySem.Spec L2

abbrev D := PyData
/-- no code object's table -/
def NT (o : HO) : Prop := ∀ ps, o ≠ .tbl ps
/-- the part of the heap that is not protected -/
def cut (O : List Addr) (H : Hp) : Hp := fun a => if a ∈ O then none else H a
theorem cut_in {O : List Addr} {H : Hp} {a : Addr} (h : a ∈ O) : cut O H a = none := if_pos h
theorem cut_out {O : List Addr} {H : Hp} {a : Addr} (h : a ∉ O) : cut O H a = H a := if_neg h
theorem cut_some {O : List Addr} {H : Hp} {a : Addr} {o : HO} (h : cut O H a = some o) : a ∉ O ∧ H a = some o := by
  by_cases q : a ∈ O
  · rw [cut_in q] at h; cases h
  · rw [cut_out q] at h; exact ⟨q, h⟩
/-- what is read stays -/
def Sub (G G' : Hp) : Prop := ∀ a o, G a = some o → NT o → G' a = some o
theorem Sub.refl (G : Hp) : Sub G G := fun _ _ h _ => h
theorem Sub.trans {G G' G'' : Hp} (a : Sub G G') (b : Sub G' G'') : Sub G G'' := fun x o h n => b x o (a x o h n) n
theorem Sub.cut (O : List Addr) (H : Hp) : Sub (cut O H) H := fun _ _ h _ => (cut_some h).2
theorem nt_lst {xs : List V} : NT (.lst xs) := fun _ q => by cases q
theorem nt_tup {xs : List V} : NT (.tup xs) := fun _ q => by cases q
theorem nt_frz {o : Obj} {u : HO} : NT (.frz o u) := fun _ q => by cases q
theorem Sub.rdl {G G' : Hp} {a : Addr} {xs : List V} (e : Sub G G') (h : Rd G a (.lst xs)) : Rd G' a (.lst xs) := by
  rcases h with h | ⟨o, h⟩
  · exact .inl (e a _ h nt_lst)
  · exact .inr ⟨o, e a _ h nt_frz⟩
theorem Sub.rdt {G G' : Hp} {a : Addr} {xs : List V} (e : Sub G G') (h : Rd G a (.tup xs)) : Rd G' a (.tup xs) := by
  rcases h with h | ⟨o, h⟩
  · exact .inl (e a _ h nt_tup)
  · exact .inr ⟨o, e a _ h nt_frz⟩
theorem Sub.sql {K : PySem.W.Frag} {G G' : Hp} {a : Addr} {xs : List V} (e : Sub G G') (h : SqL K G a xs) : SqL K G' a xs := by
  rcases h with h | h
  · exact .inl (e.rdl h)
  · exact .inr h
theorem Sub.sqt {K : PySem.W.Frag} {G G' : Hp} {a : Addr} {xs : List V} (e : Sub G G') (h : SqT K G a xs) : SqT K G' a xs := by
  rcases h with h | h
  · exact .inl (e.rdt h)
  · exact .inr h
/-! data, dicts with texts as keys among them -/
mutual
inductive Dp (K : PySem.W.Frag) (H : Hp) : V → PyData → Prop
  | non : Dp K H .non .none
  | bl (b : Bool) : Dp K H (.bl b) (.bool b)
  | int (i : Int) : Dp K H (.int i) (.int i)
  | str (x : Str) : Dp K H (.str x) (.str x)
  | lst {a : Addr} {xs : List V} {ds : List PyData} : SqL K H a xs → DpAll K H xs ds → Dp K H (.ref a) (.list ds)
  | tup {a : Addr} {xs : List V} {ds : List PyData} : SqT K H a xs → DpAll K H xs ds → Dp K H (.ref a) (.tuple ds)
  | dct {a : Addr} {us : List (Key × V)} {kvs : List (PyData × PyData)} : Rd H a (.dK us) → DpKv K H us kvs → Dp K H (.ref a) (.dict kvs)
inductive DpAll (K : PySem.W.Frag) (H : Hp) : List V → List PyData → Prop
  | nil : DpAll K H [] []
  | cons {v : V} {vs : List V} {d : PyData} {ds : List PyData} : Dp K H v d → DpAll K H vs ds → DpAll K H (v :: vs) (d :: ds)
inductive DpKv (K : PySem.W.Frag) (H : Hp) : List (Key × V) → List (PyData × PyData) → Prop
  | nil : DpKv K H [] []
  | cons {x : Str} {v : V} {us : List (Key × V)} {d : PyData} {kvs : List (PyData × PyData)} : Dp K H v d → DpKv K H us kvs → DpKv K H ((.inr x, v) :: us) ((.str x, d) :: kvs)
end
mutual
/-- no dict within -/
def nod : D → Bool
  | .dict _ => false
  | .list xs => nodA xs
  | .tuple xs => nodA xs
  | .none => true
  | .bool _ => true
  | .int _ => true
  | .str _ => true
def nodA : List D → Bool
  | [] => true
  | d :: r => nod d && nodA r
end
theorem nod_l {xs : List D} (h : nod (.list xs) = true) : nodA xs = true := by rw [nod] at h; exact h
theorem nod_t {xs : List D} (h : nod (.tuple xs) = true) : nodA xs = true := by rw [nod] at h; exact h
theorem nod_d {xs : List (D × D)} (h : nod (.dict xs) = true) : False := by rw [nod] at h; cases h
theorem nodA_c {d : D} {r : List D} (h : nodA (d :: r) = true) : nod d = true ∧ nodA r = true := by rw [nodA, Bool.and_eq_true] at h; exact h
mutual
theorem Dp.old {K : PySem.W.Frag} {G : Hp} : ∀ {d : D} {v : V}, nod d = true → Dp K G v d → L2.Dp K G v d
  | _, _, _, .non => .non
  | _, _, _, .bl b => .bl b
  | _, _, _, .int i => .int i
  | _, _, _, .str x => .str x
  | _, _, h, .lst e r => .lst e (DpAll.old (nod_l h) r)
  | _, _, h, .tup e r => .tup e (DpAll.old (nod_t h) r)
  | _, _, h, .dct _ _ => (nod_d h).elim
theorem DpAll.old {K : PySem.W.Frag} {G : Hp} : ∀ {ds : List D} {vs : List V}, nodA ds = true → DpAll K G vs ds → L2.DpAll K G vs ds
  | _, _, _, .nil => .nil
  | _, _, h, .cons q r => .cons (Dp.old (nodA_c h).1 q) (DpAll.old (nodA_c h).2 r)
end
mutual
theorem nod_lay : ∀ d : D, d.canLay0 = true → nod d = true
  | .none, _ => by rw [nod]
  | .bool _, _ => by rw [nod]
  | .int _, _ => by rw [nod]
  | .str _, _ => by rw [nod]
  | .list xs, h => by
    rw [PyData.canLay0] at h
    rw [nod]
    exact nodA_lay xs h
  | .tuple xs, h => by
    rw [PyData.canLay0] at h
    rw [nod]
    exact nodA_lay xs h
  | .dict _, h => by rw [PyData.canLay0] at h; cases h
theorem nodA_lay : ∀ ds : List D, PyData.canLayAll0 ds = true → nodA ds = true
  | [], _ => by rw [nodA]
  | d :: r, h => by
    rw [PyData.canLayAll0, Bool.and_eq_true] at h
    rw [nodA, nod_lay d h.1, nodA_lay r h.2]
    rfl
end
theorem nod_shaped {d : D} (h : SeqAt.shaped d = true) : nod d = true := nod_lay d (Bool.and_eq_true_iff.mp h).1
theorem nt_dK {us : List (Key × V)} : NT (.dK us) := fun _ q => by cases q
theorem nt_ext {φ : Heap → Prop} : NT (.ext φ) := fun _ q => by cases q
theorem Sub.rdk {G G' : Hp} {a : Addr} {us : List (Key × V)} (e : Sub G G') (h : Rd G a (.dK us)) : Rd G' a (.dK us) := by
  rcases h with h | ⟨o, h⟩
  · exact .inl (e a _ h nt_dK)
  · exact .inr ⟨o, e a _ h nt_frz⟩
mutual
theorem Sub.dp {K : PySem.W.Frag} {G G' : Hp} (e : Sub G G') : ∀ {d : D} {v : V}, Dp K G v d → Dp K G' v d
  | _, _, .non => .non
  | _, _, .bl b => .bl b
  | _, _, .int i => .int i
  | _, _, .str x => .str x
  | _, _, .lst h r => .lst (e.sql h) (Sub.dpa e r)
  | _, _, .tup h r => .tup (e.sqt h) (Sub.dpa e r)
  | _, _, .dct h r => .dct (e.rdk h) (Sub.dpk e r)
theorem Sub.dpa {K : PySem.W.Frag} {G G' : Hp} (e : Sub G G') : ∀ {ds : List D} {vs : List V}, DpAll K G vs ds → DpAll K G' vs ds
  | _, _, .nil => .nil
  | _, _, .cons h r => .cons (Sub.dp e h) (Sub.dpa e r)
theorem Sub.dpk {K : PySem.W.Frag} {G G' : Hp} (e : Sub G G') : ∀ {kvs : List (D × D)} {us : List (Key × V)}, DpKv K G us kvs → DpKv K G' us kvs
  | _, _, .nil => .nil
  | _, _, .cons h r => .cons (Sub.dp e h) (Sub.dpk e r)
end
theorem dpk_len {K : PySem.W.Frag} {G : Hp} : ∀ {kvs : List (D × D)} {us : List (Key × V)}, DpKv K G us kvs → us.length = kvs.length
  | _, _, .nil => rfl
  | _, _, .cons _ r => congrArg (· + 1) (dpk_len r)
theorem dpa_len {K : PySem.W.Frag} {G : Hp} : ∀ {ds : List D} {vs : List V}, DpAll K G vs ds → vs.length = ds.length
  | _, _, .nil => rfl
  | _, _, .cons _ r => congrArg (· + 1) (dpa_len r)
theorem dpa_app {K : PySem.W.Frag} {G : Hp} : ∀ {ds es : List D} {vs us : List V}, DpAll K G vs ds → DpAll K G us es → DpAll K G (vs ++ us) (ds ++ es)
  | _, _, _, _, .nil, h => h
  | _, _, _, _, .cons h r, q => .cons h (dpa_app r q)
theorem dpa_get {K : PySem.W.Frag} {G : Hp} : ∀ {ds : List D} {vs : List V} {i : Nat} {d : D}, DpAll K G vs ds → ds[i]? = some d → ∃ v, vs[i]? = some v ∧ Dp K G v d
  | _, _, _, _, .nil, e => by simp at e
  | _, _, 0, _, .cons h _, e => by simp at e; subst e; exact ⟨_, rfl, h⟩
  | _, _, i + 1, d, .cons _ r, e => by
    obtain ⟨v, a, b⟩ := dpa_get (i := i) (d := d) r (by simpa using e)
    exact ⟨v, by simpa using a, b⟩
theorem dpa_getv {K : PySem.W.Frag} {G : Hp} : ∀ {ds : List D} {vs : List V} {i : Nat} {v : V}, DpAll K G vs ds → vs[i]? = some v → ∃ d, ds[i]? = some d ∧ Dp K G v d
  | _, _, _, _, .nil, e => by simp at e
  | _, _, 0, _, .cons h _, e => by simp at e; subst e; exact ⟨_, rfl, h⟩
  | _, _, i + 1, v, .cons _ r, e => by
    obtain ⟨d, a, b⟩ := dpa_getv (i := i) (v := v) r (by simpa using e)
    exact ⟨d, by simpa using a, b⟩
theorem dpa_take {K : PySem.W.Frag} {G : Hp} : ∀ {ds : List D} {vs : List V} (n : Nat), DpAll K G vs ds → DpAll K G (vs.take n) (ds.take n)
  | _, _, 0, _ => .nil
  | _, _, _ + 1, .nil => .nil
  | _, _, n + 1, .cons h r => .cons h (dpa_take n r)
theorem dpa_drop {K : PySem.W.Frag} {G : Hp} : ∀ {ds : List D} {vs : List V} (n : Nat), DpAll K G vs ds → DpAll K G (vs.drop n) (ds.drop n)
  | _, _, 0, h => h
  | _, _, _ + 1, .nil => .nil
  | _, _, n + 1, .cons _ r => dpa_drop n r
theorem dpa_set {K : PySem.W.Frag} {G : Hp} {v : V} {d : D} (h : Dp K G v d) : ∀ {ds : List D} {vs : List V} (n : Nat), DpAll K G vs ds → DpAll K G (vs.set n v) (ds.set n d)
  | _, _, _, .nil => .nil
  | _, _, 0, .cons _ r => .cons h r
  | _, _, n + 1, .cons q r => .cons q (dpa_set h n r)
theorem dpa_dropLast {K : PySem.W.Frag} {G : Hp} : ∀ {ds : List D} {vs : List V}, DpAll K G vs ds → DpAll K G vs.dropLast ds.dropLast
  | _, _, .nil => .nil
  | _, _, .cons _ .nil => .nil
  | _, _, .cons h (.cons q r) => .cons h (dpa_dropLast (.cons q r))
theorem dpa_erase {K : PySem.W.Frag} {G : Hp} : ∀ {ds : List D} {vs : List V} (n : Nat), DpAll K G vs ds → DpAll K G (vs.eraseIdx n) (ds.eraseIdx n)
  | _, _, _, .nil => .nil
  | _, _, 0, .cons _ r => r
  | _, _, n + 1, .cons h r => .cons h (dpa_erase n r)
theorem dpa_rev {K : PySem.W.Frag} {G : Hp} : ∀ {ds : List D} {vs : List V}, DpAll K G vs ds → DpAll K G vs.reverse ds.reverse
  | _, _, .nil => .nil
  | _, _, .cons h r => by
    rw [List.reverse_cons, List.reverse_cons]
    exact dpa_app (dpa_rev r) (.cons h .nil)
theorem dpa_rep {K : PySem.W.Frag} {G : Hp} {ds : List D} {vs : List V} (h : DpAll K G vs ds) : ∀ k : Nat, DpAll K G (List.replicate k vs).flatten (List.replicate k ds).flatten
  | 0 => .nil
  | k + 1 => by
    rw [List.replicate_succ, List.replicate_succ, List.flatten_cons, List.flatten_cons]
    exact dpa_app h (dpa_rep h k)

/-! ### order of ints, reckoned step by step -/
def ltI : Int → Int → Bool
  | .ofNat m, .ofNat n => Nat.blt m n
  | .ofNat _, .negSucc _ => false
  | .negSucc _, .ofNat _ => true
  | .negSucc m, .negSucc n => Nat.blt n m
theorem ltI_eq (i j : Int) : ltI i j = decide (i < j) := by
  cases i with
  | ofNat m =>
    cases j with
    | ofNat n =>
      show Nat.blt m n = _
      rw [Bool.eq_iff_iff, decide_eq_true_iff, Nat.blt_eq]
      exact Int.ofNat_lt.symm
    | negSucc n =>
      show false = _
      rw [eq_comm, decide_eq_false_iff_not, Int.ofNat_eq_natCast]
      omega
  | negSucc m =>
    cases j with
    | ofNat n =>
      show true = _
      rw [eq_comm, decide_eq_true_iff, Int.ofNat_eq_natCast]
      omega
    | negSucc n =>
      show Nat.blt n m = _
      rw [Bool.eq_iff_iff, decide_eq_true_iff, Nat.blt_eq]
      omega
theorem leI_eq (i j : Int) : (!ltI j i) = decide (i ≤ j) := by
  rw [ltI_eq]
  by_cases h : j < i
  · rw [decide_eq_true h, decide_eq_false (by omega)]; rfl
  · rw [decide_eq_false h, decide_eq_true (by omega)]; rfl
def btw (lo hi j : Int) : Bool := ltI lo j && ltI j hi
theorem btw_iff {lo hi j : Int} : btw lo hi j = true ↔ lo < j ∧ j < hi := by
  unfold btw
  rw [ltI_eq, ltI_eq, Bool.and_eq_true, decide_eq_true_iff, decide_eq_true_iff]
/-! ### slots -/
/-- a dict with texts as keys, a dict with tuples as keys -/
inductive Bd where
  | k (kvs : List (D × D))
  | t (kvs : List (D × D))
/-- what is owned -/
inductive Bx where
  | lst (ds : List D)
  | dic (b : Bd)
inductive Sl where
  | un
  | dat (d : D)
  | own (ds : List D)
  | dic (b : Bd)
def Sl.ow : Sl → Bool
  | .un => false
  | .dat _ => false
  | .own _ => true
  | .dic _ => true
abbrev Sts := List Sl
mutual
/-- the key that a datum is (no texts within) -/
def keyOf : D → Option NestedKey
  | .none => some .none
  | .bool b => some (.num (if b then 1 else 0))
  | .int i => some (.num i)
  | .tuple xs => (keysOf xs).map .tup
  | .str _ => none
  | .list _ => none
  | .dict _ => none
def keysOf : List D → Option (List NestedKey)
  | [] => some []
  | d :: r => match keyOf d, keysOf r with
    | some k, some ks => some (k :: ks)
    | _, _ => none
end
/-- a dict whose keys are tuples, by its one object -/
def ND (l : Addr) (us : List (NestedKey × Addr × V)) : Heap → Prop := fun h => us.length ≤ sizeLine ∧ (l == sysModules) = false ∧ ∃ (w : World) (xs : List (NestedKey × Addr × Value)),
  Paired (fun (p : NestedKey × Addr × V) (q : NestedKey × Addr × Value) => p.1 = q.1 ∧ p.2.1 = q.2.1 ∧ RelV p.2.2 q.2.2) us xs ∧
  ∃ o es ep, h.get? l = some o ∧ o.ExactDict ∧ o.data = .dict es ep ∧ es.toList = xs.map (fun x => ⟨x.1.hash w, .ref x.2.1, x.2.2⟩) ∧ (xs.map (·.1)).Nodup
inductive DpNt (K : PySem.W.Frag) (G : Hp) : List (NestedKey × Addr × V) → List (D × D) → Prop
  | nil : DpNt K G [] []
  | cons {k : NestedKey} {a : Addr} {v : V} {us : List (NestedKey × Addr × V)} {dk dv : D} {kvs : List (D × D)} : keyOf dk = some k → Dp K G (.ref a) dk → Dp K G v dv → DpNt K G us kvs → DpNt K G ((k, a, v) :: us) ((dk, dv) :: kvs)
theorem Sub.dpn {K : PySem.W.Frag} {G G' : Hp} (e : Sub G G') : ∀ {kvs : List (D × D)} {us : List (NestedKey × Addr × V)}, DpNt K G us kvs → DpNt K G' us kvs
  | _, _, .nil => .nil
  | _, _, .cons h1 h2 h3 r => .cons h1 (e.dp h2) (e.dp h3) (Sub.dpn e r)

/-- what is fixed while a def runs -/
structure Cf where
  K : PySem.W.Frag
  T : List (Addr × Option Str)
  ca : Str → Addr
  np : Nat
  pin : List (Nat × Addr)
  O0 : List Addr
  H0 : Hp
abbrev Cf.A0 (c : Cf) : List Addr := c.pin.map (·.2)
/-- a code object's table -/
def Tb (H : Hp) (P : Addr × Option Str) : Prop := ∃ ps : Array Value, H P.1 = some (.tbl ps) ∧ TriplesOk ps.toList ∧ ∀ q, P.2 = some q → ∀ (pos : Pos) (cv : Value), PySem.codeAmong pos ps.toList = some cv → ∃ c, cv = .ref c ∧ H c = some (LamX.CodeO c q)
def Tbs (T : List (Addr × Option Str)) (H : Hp) : Prop := ∀ P ∈ T, Tb H P
theorem Tb.keep {H H' : Hp} {P : Addr × Option Str} (t : Tb H P) (k : ∀ a o, H a = some o → ((∃ ps, o = .tbl ps) ∨ ∃ φ, o = .ext φ) → H' a = some o) : Tb H' P := by
  obtain ⟨ps, h1, h2, h3⟩ := t
  refine ⟨ps, k _ _ h1 (.inl ⟨ps, rfl⟩), h2, fun q hq pos cv hc => ?_⟩
  obtain ⟨c, e1, e2⟩ := h3 q hq pos cv hc
  exact ⟨c, e1, k _ _ e2 (.inr ⟨_, rfl⟩)⟩
/-- a table of generator expressions -/
def GxIn (T : List (Addr × Option Str)) (P : Addr) : Prop := (P, none) ∈ T ∧ ∀ p ∈ T, p.1 = P → p.2 = none

/-- what stands at l bears b -/
def BxOk (K : PySem.W.Frag) (O : List Addr) (H : Hp) (l : Addr) : Bx → Prop
  | .lst ds => ∃ vs, H l = some (.lst vs) ∧ DpAll K (cut O H) vs ds
  | .dic (.k kvs) => ∃ us, H l = some (.dK us) ∧ DpKv K (cut O H) us kvs
  | .dic (.t kvs) => ∃ us, H l = some (.ext (ND l us)) ∧ DpNt K (cut O H) us kvs
/-- one step from one heap to another: l is as it was, what is read stays -/
theorem BxOk.to {K : PySem.W.Frag} {O O' : List Addr} {H H' : Hp} {l : Addr} {b : Bx} (h : BxOk K O H l b) (hl : ∀ o, NT o → H l = some o → H' l = some o) (e : Sub (cut O H) (cut O' H')) : BxOk K O' H' l b := by
  cases b with
  | lst ds => obtain ⟨vs, h2, q⟩ := h; exact ⟨vs, hl _ nt_lst h2, e.dpa q⟩
  | dic b => cases b with
    | k kvs => obtain ⟨us, h2, q⟩ := h; exact ⟨us, hl _ nt_dK h2, e.dpk q⟩
    | t kvs => obtain ⟨us, h2, q⟩ := h; exact ⟨us, hl _ nt_ext h2, e.dpn q⟩
theorem BxOk.some {K : PySem.W.Frag} {O : List Addr} {H : Hp} {l : Addr} {b : Bx} (h : BxOk K O H l b) : ∃ o, H l = some o ∧ NT o := by
  cases b with
  | lst ds => obtain ⟨vs, h2, _⟩ := h; exact ⟨_, h2, nt_lst⟩
  | dic b => cases b with
    | k kvs => obtain ⟨us, h2, _⟩ := h; exact ⟨_, h2, nt_dK⟩
    | t kvs => obtain ⟨us, h2, _⟩ := h; exact ⟨_, h2, nt_ext⟩
/-- the slot's value bears x; A: the addresses that are owned here -/
def SlOk (K : PySem.W.Frag) (O A : List Addr) (H : Hp) (o : Option V) : Sl → Prop
  | .un => True
  | .dat d => ∃ v, o = some v ∧ Dp K (cut O H) v d
  | .own ds => ∃ l, o = some (.ref l) ∧ l ∈ A ∧ BxOk K O H l (.lst ds)
  | .dic b => ∃ l, o = some (.ref l) ∧ l ∈ A ∧ BxOk K O H l (.dic b)

structure Rel (c : Cf) (O A : List Addr) (σ : St) (H : Hp) (s : Sts) : Prop where
  len : σ.length = s.length
  sub : ∀ a ∈ A, a ∈ O
  alv : ∀ a ∈ O, ∃ o, H a = some o ∧ NT o
  slot : ∀ (i : Nat) (x : Sl), s[i]? = some x → SlOk c.K O A H ((σ[i]?).getD none) x
  inj : ∀ (i j : Nat) (ds es : Sl) (l : Addr), s[i]? = some ds → s[j]? = some es → ds.ow = true → es.ow = true → σ[i]? = some (some (.ref l)) → σ[j]? = some (some (.ref l)) → i = j
  kp : ∀ a o, c.H0 a = some o → NT o → a ∉ c.A0 → H a = some o
  fr : ∀ a ∈ A, a ∈ c.A0 ∨ ∀ o, c.H0 a = some o → ¬ NT o
  z0 : ∀ a ∈ c.O0, ∃ o, c.H0 a = some o ∧ NT o
  o0 : ∀ a ∈ c.O0, a ∈ O
  pn : ∀ p ∈ c.pin, p.1 < c.np ∧ σ[p.1]? = some (some (.ref p.2)) ∧ ∃ ds, s[p.1]? = some (.own ds)
  tb : Tbs c.T H

/-- from (O, H) to (O', H'): what could be read can be read -/
def Fwd (O : List Addr) (H : Hp) (O' : List Addr) (H' : Hp) : Prop := Sub (cut O H) (cut O' H')
theorem Fwd.refl (O : List Addr) (H : Hp) : Fwd O H O H := Sub.refl _
theorem Fwd.trans {O O1 O2 : List Addr} {H H1 H2 : Hp} (a : Fwd O H O1 H1) (b : Fwd O1 H1 O2 H2) : Fwd O H O2 H2 := Sub.trans a b
/-- new things alone -/
structure Grow (c : Cf) (H H' : Hp) : Prop where
  sub : Sub H H'
  tb : Tbs c.T H → Tbs c.T H'
theorem Grow.refl (c : Cf) (H : Hp) : Grow c H H := ⟨Sub.refl _, id⟩
theorem Grow.trans {c : Cf} {H H1 H2 : Hp} (a : Grow c H H1) (b : Grow c H1 H2) : Grow c H H2 := ⟨a.sub.trans b.sub, fun t => b.tb (a.tb t)⟩
theorem Grow.new {c : Cf} {H : Hp} {p : Addr} {o : HO} (h : H p = none) : Grow c H (upd H p o) := by
  refine ⟨fun a u e _ => by rw [upd_ne (ne_of_none e h)]; exact e, fun t P hP => (t P hP).keep fun a u e _ => by rw [upd_ne (ne_of_none e h)]; exact e⟩
theorem Grow.cut {c : Cf} {H H' : Hp} (g : Grow c H H') (O : List Addr) : Sub (cut O H) (cut O H') := fun a o h n => by
  obtain ⟨h1, h2⟩ := cut_some h
  rw [cut_out h1]
  exact g.sub a o h2 n
theorem Grow.fwd {c : Cf} {H H' : Hp} (g : Grow c H H') (O : List Addr) : Fwd O H O H' := g.cut O
theorem SlOk.grow {c : Cf} {O A : List Addr} {H H' : Hp} {o : Option V} {x : Sl} (g : Grow c H H') (h : SlOk c.K O A H o x) : SlOk c.K O A H' o x := by
  cases x with
  | un => trivial
  | dat d => obtain ⟨v, e, q⟩ := h; exact ⟨v, e, (g.cut O).dp q⟩
  | own ds => obtain ⟨l, e, h1, q⟩ := h; exact ⟨l, e, h1, q.to (fun o n h2 => g.sub l o h2 n) (g.cut O)⟩
  | dic b => obtain ⟨l, e, h1, q⟩ := h; exact ⟨l, e, h1, q.to (fun o n h2 => g.sub l o h2 n) (g.cut O)⟩
theorem Rel.grow {c : Cf} {O A : List Addr} {σ : St} {H H' : Hp} {s : Sts} (g : Grow c H H') (r : Rel c O A σ H s) : Rel c O A σ H' s where
  len := r.len
  sub := r.sub
  alv := fun a h => let ⟨o, e, n⟩ := r.alv a h; ⟨o, g.sub a o e n, n⟩
  slot := fun i x h => (r.slot i x h).grow g
  inj := r.inj
  kp := fun a o h n q => g.sub a o (r.kp a o h n q) n
  fr := r.fr
  z0 := r.z0
  o0 := r.o0
  pn := r.pn
  tb := g.tb r.tb
theorem Rel.fresh {c : Cf} {O A : List Addr} {σ : St} {H : Hp} {s : Sts} {p : Addr} (r : Rel c O A σ H s) (h : H p = none) : p ∉ O := fun q => by
  obtain ⟨o, e, _⟩ := r.alv p q
  rw [h] at e; cases e

/-! ### results -/
inductive Rs (α : Type) where
  | ok (a : α) (s : Sts)
  | err (x : Str) (s : Sts)
  | bad
abbrev M (α : Type) := Sts → Rs α
def Rs.bind {α β : Type} (r : Rs α) (k : α → M β) : Rs β := match r with
  | .ok a s => k a s
  | .err x s => .err x s
  | .bad => .bad
@[simp] theorem bind_ok {α β : Type} (a : α) (s : Sts) (k : α → M β) : (Rs.ok a s).bind k = k a s := rfl
@[simp] theorem bind_err {α β : Type} (x : Str) (s : Sts) (k : α → M β) : (Rs.err x s : Rs α).bind k = .err x s := rfl
@[simp] theorem bind_bad {α β : Type} (k : α → M β) : (Rs.bad : Rs α).bind k = .bad := rfl
/-- a partial value -/
def lift {α : Type} (o : Option α) (s : Sts) : Rs α := match o with
  | some a => .ok a s
  | none => .bad
@[simp] theorem lift_some {α : Type} (a : α) (s : Sts) : lift (some a) s = .ok a s := rfl
@[simp] theorem lift_none {α : Type} (s : Sts) : lift (none : Option α) s = .bad := rfl

/-- an expression's step: owned lists may change, new things may come -/
def Stp (A : List Addr) (H H' : Hp) : Prop := ∀ a o, a ∉ A → H a = some o → NT o → H' a = some o
theorem Stp.refl (A : List Addr) (H : Hp) : Stp A H H := fun _ _ _ h _ => h
theorem Stp.trans {A : List Addr} {H H1 H2 : Hp} (a : Stp A H H1) (b : Stp A H1 H2) : Stp A H H2 := fun x o n h t => b x o n (a x o n h t) t
theorem Stp.fwd {O A : List Addr} {H H' : Hp} (hs : ∀ a ∈ A, a ∈ O) (h : Stp A H H') : Fwd O H O H' := fun a o e n => by
  obtain ⟨h1, h2⟩ := cut_some e
  rw [cut_out h1]
  exact h a o (fun z => h1 (hs a z)) h2 n
theorem Grow.stp {c : Cf} {H H' : Hp} (g : Grow c H H') (A : List Addr) : Stp A H H' := fun a o _ h n => g.sub a o h n
/-- what must hold behind -/
def Wp {α : Type} (c : Cf) (W : WX) (O A : List Addr) (σ : St) (H : Hp) (r : Rs α) (P : α → Sts → Hp → Prop) : Prop := match r with
  | .ok a s' => ∀ H', Stp A H H' → Rel c O A σ H' s' → P a s' H'
  | .err x s' => ∀ H', Stp A H H' → Rel c O A σ H' s' → W (.ref (c.ca x)) none σ H'
  | .bad => False
theorem Wp.mono {α : Type} {c : Cf} {W : WX} {O A : List Addr} {σ : St} {H : Hp} {r : Rs α} {P P' : α → Sts → Hp → Prop} (h : Wp c W O A σ H r P)
    (k : ∀ a s' H', r = .ok a s' → Stp A H H' → Rel c O A σ H' s' → P a s' H' → P' a s' H') : Wp c W O A σ H r P' := by
  cases r with
  | ok a s' => exact fun H' f q => k a s' H' rfl f q (h H' f q)
  | err x s' => exact h
  | bad => exact h
/-- further on -/
theorem Wp.fwd {α : Type} {c : Cf} {W : WX} {O A : List Addr} {σ : St} {H H1 : Hp} {r : Rs α} {P : α → Sts → Hp → Prop} (f : Stp A H H1) (h : Wp c W O A σ H r P) : Wp c W O A σ H1 r P := by
  cases r with
  | ok a s' => exact fun H' f' q => h H' (f.trans f') q
  | err x s' => exact fun H' f' q => h H' (f.trans f') q
  | bad => exact h
/-- a bind: first r, then k -/
theorem Wp.bind {α β : Type} {c : Cf} {W : WX} {O A : List Addr} {σ : St} {H : Hp} {r : Rs α} {k : α → M β} {P : β → Sts → Hp → Prop} (h : Wp c W O A σ H (r.bind k) P) :
    Wp c W O A σ H r (fun a s' H' => Wp c W O A σ H' (k a s') P) := by
  cases r with
  | ok a s' => exact fun H' f _ => Wp.fwd f h
  | err x s' => exact h
  | bad => exact h

abbrev PV (c : Cf) (O : List Addr) (Q : VK) : D → Sts → Hp → Prop := fun d _ H' => ∀ v, Dp c.K (cut O H') v d → Q v H'
abbrev PB (Q : Bool → Hp → Prop) : Bool → Sts → Hp → Prop := fun b _ H' => Q b H'

/-- the reading te reckons f -/
def SemE (c : Cf) (W : WX) (te : TE) (f : M D) : Prop := ∀ O A σ H s, Rel c O A σ H s → ∀ Q : VK, Wp c W O A σ H (f s) (PV c O Q) → te σ H Q
def SemT (c : Cf) (W : WX) (tt : TT) (f : M Bool) : Prop := ∀ O A σ H s, Rel c O A σ H s → ∀ Q : Bool → Hp → Prop, Wp c W O A σ H (f s) (PB Q) → tt σ H Q
/-- arguments: data, or an owned slot -/
inductive Ar where
  | dat (d : D)
  | own (i : Nat)
def ArOk (c : Cf) (O : List Addr) (σ : St) (H : Hp) (s : Sts) (v : V) : Ar → Prop
  | .dat d => Dp c.K (cut O H) v d
  | .own i => σ[i]? = some (some v) ∧ ∃ ds, s[i]? = some (.own ds)
inductive ArsOk (c : Cf) (O : List Addr) (σ : St) (H : Hp) (s : Sts) : List V → List Ar → Prop
  | nil : ArsOk c O σ H s [] []
  | cons {v : V} {vs : List V} {a : Ar} {as : List Ar} : ArOk c O σ H s v a → ArsOk c O σ H s vs as → ArsOk c O σ H s (v :: vs) (a :: as)
def SemA (c : Cf) (W : WX) (ta : TA) (f : M (List D)) : Prop := ∀ O A σ H s, Rel c O A σ H s → ∀ Q : List V → Hp → Prop, Wp c W O A σ H (f s) (fun ds _ H' => ∀ vs, DpAll c.K (cut O H') vs ds → Q vs H') → ta σ H Q

def DE (c : Cf) (X : Cx) (W : WX) (e : Expr) (f : M D) : Prop := ∃ te, PE X e te ∧ SemE c W te f
def DT (c : Cf) (X : Cx) (W : WX) (e : Expr) (f : M Bool) : Prop := ∃ tt, PT X e tt ∧ SemT c W tt f
def DA (c : Cf) (X : Cx) (W : WX) (es : List Expr) (f : M (List D)) : Prop := ∃ ta, PA X es ta ∧ SemA c W ta f

/-! ### names, constants -/
def mVar (i : Nat) : M D := fun s => match s[i]? with
  | some (.dat d) => .ok d s
  | _ => .bad
def mC (d : D) : M D := fun s => .ok d s
def mMap {α β : Type} (f : M α) (g : α → Option β) : M β := fun s => (f s).bind fun a s1 => lift (g a) s1
def mMap2 {α β γ : Type} (f : M α) (g : M β) (h : α → β → Option γ) : M γ := fun s => (f s).bind fun a s1 => (g s1).bind fun b s2 => lift (h a b) s2
theorem Rel.dat {c : Cf} {O A : List Addr} {σ : St} {H : Hp} {s : Sts} {i : Nat} {d : D} (r : Rel c O A σ H s) (h : s[i]? = some (.dat d)) : ∃ v, σ[i]? = some (some v) ∧ Dp c.K (cut O H) v d := by
  obtain ⟨v, e, q⟩ := r.slot i _ h
  refine ⟨v, ?_, q⟩
  cases z : σ[i]? with
  | none => rw [z] at e; cases e
  | some o => rw [z] at e; exact congrArg some e
theorem at_some {σ : St} {i : Nat} {v : V} (e : (σ[i]?).getD none = some v) : σ[i]? = some (some v) := by
  cases z : σ[i]? with
  | none => rw [z] at e; cases e
  | some o => rw [z] at e; exact congrArg some e
theorem Rel.own {c : Cf} {O A : List Addr} {σ : St} {H : Hp} {s : Sts} {i : Nat} {ds : List D} (r : Rel c O A σ H s) (h : s[i]? = some (.own ds)) : ∃ l vs, σ[i]? = some (some (.ref l)) ∧ l ∈ A ∧ H l = some (.lst vs) ∧ DpAll c.K (cut O H) vs ds := by
  obtain ⟨l, e, h1, vs, h2, q⟩ := r.slot i _ h
  exact ⟨l, vs, at_some e, h1, h2, q⟩
theorem Rel.dic {c : Cf} {O A : List Addr} {σ : St} {H : Hp} {s : Sts} {i : Nat} {b : Bd} (r : Rel c O A σ H s) (h : s[i]? = some (.dic b)) : ∃ l, σ[i]? = some (some (.ref l)) ∧ l ∈ A ∧ BxOk c.K O H l (.dic b) := by
  obtain ⟨l, e, h1, q⟩ := r.slot i _ h
  exact ⟨l, at_some e, h1, q⟩
section
variable {c : Cf} {X : Cx} {W : WX} {a b : Expr} {f g : M D} {pos : Pos}
theorem sem_var (i : Nat) : SemE c W (tVar i) (mVar i) := by
  intro O A σ H s r Q h
  unfold mVar at h
  cases z : s[i]? with
  | none => rw [z] at h; exact h.elim
  | some x =>
    rw [z] at h
    cases x with
    | un => exact h.elim
    | own ds => exact h.elim
    | dic b => exact h.elim
    | dat d =>
      obtain ⟨v, e, q⟩ := r.dat z
      exact ⟨v, e, h H (Stp.refl _ _) r v q⟩
theorem sem_c {v : V} {d : D} (h : ∀ H, Dp c.K H v d) : SemE c W (tC v) (mC d) := fun O A σ H s r Q k => k H (Stp.refl _ _) r v (h _)
/-- the name in slot i -/
theorem dv (i : Nat) {x : Str} (hN : X.N[i]? = some x := by rfl) (hv : Vis X.env.scope x := by first | exact Or.inl rfl | exact Or.inr (Or.inl rfl) | exact Or.inr (Or.inr rfl)) (hd : (x == ("__debug__" : Str)) = false := by decide)
    (hcd : (x == ("__classdict__" : Str)) = false := by decide) : DE c X W (.Name x pos) (mVar i) := ⟨_, pe_var hN hv hd hcd, sem_var i⟩
theorem d_int {i j} : DE c X W (.Constant (.int i) j pos) (mC (.int i)) := ⟨_, pe_int, sem_c fun _ => .int i⟩
theorem d_bl {b j} : DE c X W (.Constant (.bool b) j pos) (mC (.bool b)) := ⟨_, pe_bl, sem_c fun _ => .bl b⟩
theorem d_non {j} : DE c X W (.Constant .none j pos) (mC .none) := ⟨_, pe_non, sem_c fun _ => .non⟩
theorem d_str {x j} : DE c X W (.Constant (.str x) j pos) (mC (.str x)) := ⟨_, pe_str, sem_c fun _ => .str x⟩

/-! ### operations on values -/
/-- r does op -/
def Op2 (c : Cf) (r : R2) (op : D → D → Option D) : Prop := ∀ O H x y v w d, (∀ a ∈ O, ∃ o, H a = some o ∧ NT o) → op v w = some d → Dp c.K (cut O H) x v → Dp c.K (cut O H) y w → ∀ Q : VK, (∀ z H', Grow c H H' → Dp c.K (cut O H') z d → Q z H') → r x y H Q
def Op1 (c : Cf) (r : V → Hp → VK → Prop) (op : D → Option D) : Prop := ∀ O H x v d, (∀ a ∈ O, ∃ o, H a = some o ∧ NT o) → op v = some d → Dp c.K (cut O H) x v → ∀ Q : VK, (∀ z H', Grow c H H' → Dp c.K (cut O H') z d → Q z H') → r x H Q
def OpN (c : Cf) (r : List V → Hp → VK → Prop) (op : List D → Option D) : Prop := ∀ O H xs vs d, (∀ a ∈ O, ∃ o, H a = some o ∧ NT o) → op vs = some d → DpAll c.K (cut O H) xs vs → ∀ Q : VK, (∀ z H', Grow c H H' → Dp c.K (cut O H') z d → Q z H') → r xs H Q
theorem sem_op {r : R2} {op : D → D → Option D} {ta tb : TE} (ho : Op2 c r op) (ha : SemE c W ta f) (hb : SemE c W tb g) : SemE c W (tOp r ta tb) (mMap2 f g op) := by
  intro O A σ H s re Q h
  refine ha O A σ H s re _ (Wp.mono (Wp.bind h) ?_)
  intro v s1 H1 _ f1 r1 h1 x qx
  refine hb O A σ H1 s1 r1 _ (Wp.mono (Wp.bind h1) ?_)
  intro w s2 H2 _ f2 r2 h2 y qy
  cases e : op v w with
  | none => rw [e] at h2; exact h2.elim
  | some d =>
    rw [e] at h2
    refine ho O H2 x y v w d r2.alv e (Sub.dp (f2.fwd r1.sub) qx) qy Q fun z H' gr qz => ?_
    exact h2 H' (gr.stp A) (r2.grow gr) z qz
theorem sem_un {r : V → Hp → VK → Prop} {op : D → Option D} {ta : TE} (ho : Op1 c r op) (ha : SemE c W ta f) : SemE c W (tUn r ta) (mMap f op) := by
  intro O A σ H s re Q h
  refine ha O A σ H s re _ (Wp.mono (Wp.bind h) ?_)
  intro v s1 H1 _ f1 r1 h1 x qx
  cases e : op v with
  | none => rw [e] at h1; exact h1.elim
  | some d =>
    rw [e] at h1
    refine ho O H1 x v d r1.alv e qx Q fun z H' gr qz => ?_
    exact h1 H' (gr.stp A) (r1.grow gr) z qz
theorem d_bin {o : Operator} {r : R2} {op : D → D → Option D} (hp : OpR X (binaryOp o) r) (ho : Op2 c r op) (ha : DE c X W a f) (hb : DE c X W b g) : DE c X W (.BinOp a o b pos) (mMap2 f g op) := by
  obtain ⟨ta, pa, sa⟩ := ha
  obtain ⟨tb, pb, sb⟩ := hb
  exact ⟨_, pe_op hp pa pb, sem_op ho sa sb⟩
/-- a comparison as a value -/
theorem d_cmp {o : CmpOp} {r : R2} {op : D → D → Option D} (hp : OpR X (compareOp o) r) (ho : Op2 c r op) (ha : DE c X W a f) (hb : DE c X W b g) (hm : behindInMarks o b = false := by first | exact nobehind _ (by decide) (by decide) | rfl) : DE c X W (.Compare a [o] [b] pos) (mMap2 f g op) := by
  obtain ⟨ta, pa, sa⟩ := ha
  obtain ⟨tb, pb, sb⟩ := hb
  exact ⟨_, pe_cmpR hp pa pb hm, sem_op ho sa sb⟩
end
end DL

namespace DL
open PySem PySem.Spec L2
/-! ### tests -/
def asB : D → Option Bool
  | .bool b => some b
  | _ => none
@[simp] theorem asB_bool (b : Bool) : asB (.bool b) = some b := rfl
/-- a value that is a bool, as a test -/
def mT (f : M D) : M Bool := mMap f asB
def truth : D → Option Bool
  | .none => some false
  | .bool b => some b
  | .int i => some (i != 0)
  | .str x => if x.length ≤ sizeLine then some ((x.length : Int) != 0) else none
  | .list xs => some !xs.isEmpty
  | .tuple xs => some !xs.isEmpty
  | .dict _ => none
def mTru (f : M D) : M Bool := mMap f truth
def mAnd (f g : M Bool) : M Bool := fun s => (f s).bind fun b s1 => if b = true then g s1 else .ok false s1
def mOr (f g : M Bool) : M Bool := fun s => (f s).bind fun b s1 => if b = true then .ok true s1 else g s1
def mNot (f : M Bool) : M Bool := fun s => (f s).bind fun b s1 => .ok (!b) s1
def mAndV (f g : M D) : M D := fun s => (f s).bind fun d s1 => match asB d with | some true => g s1 | some false => .ok (.bool false) s1 | none => .bad
def mOrV (f g : M D) : M D := fun s => (f s).bind fun d s1 => match asB d with | some true => .ok (.bool true) s1 | some false => g s1 | none => .bad
def mNotV (f : M D) : M D := mMap f fun d => (asB d).map fun b => .bool (!b)
def mIf (t : M Bool) (f g : M D) : M D := fun s => (t s).bind fun b s1 => if b = true then f s1 else g s1
def mChain (f g h : M D) (op op' : D → D → Option D) : M D := fun s => (f s).bind fun a s1 => (g s1).bind fun b s2 => match op a b with
  | some (.bool true) => (h s2).bind fun d s3 => lift (op' b d) s3
  | some (.bool false) => .ok (.bool false) s2
  | _ => .bad
theorem asB_some {d : D} {b : Bool} (h : asB d = some b) : d = .bool b := by
  cases d <;> simp [asB] at h
  rw [h]
theorem dp_bool {K : PySem.W.Frag} {G : Hp} {v : V} {b : Bool} (h : Dp K G v (.bool b)) : v = .bl b := by cases h; rfl
theorem dp_int {K : PySem.W.Frag} {G : Hp} {v : V} {i : Int} (h : Dp K G v (.int i)) : v = .int i := by cases h; rfl
theorem dp_str {K : PySem.W.Frag} {G : Hp} {v : V} {x : Str} (h : Dp K G v (.str x)) : v = .str x := by cases h; rfl
theorem dp_non {K : PySem.W.Frag} {G : Hp} {v : V} (h : Dp K G v .none) : v = .non := by cases h; rfl
theorem dp_list {K : PySem.W.Frag} {G : Hp} {v : V} {ds : List D} (h : Dp K G v (.list ds)) : ∃ a xs, v = .ref a ∧ SqL K G a xs ∧ DpAll K G xs ds := by
  cases h with
  | lst h r => exact ⟨_, _, rfl, h, r⟩
theorem dp_tup {K : PySem.W.Frag} {G : Hp} {v : V} {ds : List D} (h : Dp K G v (.tuple ds)) : ∃ a xs, v = .ref a ∧ SqT K G a xs ∧ DpAll K G xs ds := by
  cases h with
  | tup h r => exact ⟨_, _, rfl, h, r⟩
theorem dp_dict {K : PySem.W.Frag} {G : Hp} {v : V} {kvs : List (D × D)} (h : Dp K G v (.dict kvs)) : ∃ a us, v = .ref a ∧ Rd G a (.dK us) ∧ DpKv K G us kvs := by
  cases h with
  | dct h r => exact ⟨_, _, rfl, h, r⟩
section
variable {c : Cf} {X : Cx} {W : WX} {a b : Expr} {f g h : M D} {ft gt : M Bool} {pos : Pos}
theorem sem_test {te : TE} (hs : SemE c W te f) : SemT c W (tTest te) (mT f) := by
  intro O A σ H s r Q h
  refine hs O A σ H s r _ (Wp.mono (Wp.bind h) ?_)
  intro d s1 H1 _ f1 r1 h1 v q
  cases e : asB d with
  | none => rw [e] at h1; exact h1.elim
  | some k =>
    rw [e] at h1
    have z := asB_some e
    subst z
    exact ⟨k, dp_bool q, h1 H1 (Stp.refl _ _) r1⟩
theorem sem_B {te : TE} (hs : SemE c W te f) : SemT c W (tB te) (mT f) := sem_test hs
/-- an expression that gives a bool, as a test -/
theorem t_val (he : DE c X W a f) (hp : ∀ whole, isTrue a X.env whole = (do let v ← whole; standAt a.pos; holding [v] (truthy v)) := by intro _; rfl) : DT c X W a (mT f) := by
  obtain ⟨te, pe, se⟩ := he
  exact ⟨_, pt_val pe hp, sem_B se⟩
theorem t_cmp {o : CmpOp} {r : R2} {op : D → D → Option D} (hp : OpR X (compareOp o) r) (ho : Op2 c r op) (ha : DE c X W a f) (hb : DE c X W b g) (hm : behindInMarks o b = false := by first | exact nobehind _ (by decide) (by decide) | rfl) :
    DT c X W (.Compare a [o] [b] pos) (mT (mMap2 f g op)) := by
  obtain ⟨ta, pa, sa⟩ := ha
  obtain ⟨tb, pb, sb⟩ := hb
  exact ⟨_, pt_cmpR hp pa pb hm, sem_test (sem_op ho sa sb)⟩
theorem sem_chain {r r' : R2} {op op' : D → D → Option D} {ta tb tc : TE} (ho : Op2 c r op) (ho' : Op2 c r' op') (ha : SemE c W ta f) (hb : SemE c W tb g) (hc : SemE c W tc h) : SemE c W (tChain r r' ta tb tc) (mChain f g h op op') := by
  intro O A σ H s re Q hw
  refine ha O A σ H s re _ (Wp.mono (Wp.bind hw) ?_)
  intro v s1 H1 _ f1 r1 h1 x qx
  refine hb O A σ H1 s1 r1 _ (Wp.mono (Wp.bind h1) ?_)
  intro w s2 H2 _ f2 r2 h2 y qy
  cases e : op v w with
  | none => rw [e] at h2; exact h2.elim
  | some d =>
    rw [e] at h2
    cases d with
    | bool k =>
      refine ho O H2 x y v w _ r2.alv e (Sub.dp (f2.fwd r1.sub) qx) qy _ fun z H' gr qz => ⟨k, dp_bool qz, ?_⟩
      have r3 := r2.grow gr
      cases k with
      | true =>
        refine (if_pos rfl).mpr ?_
        refine hc O A σ H' s2 r3 _ (Wp.mono (Wp.bind (Wp.fwd (gr.stp A) h2)) ?_)
        intro u s3 H3 _ f3 r4 h3 t qt
        cases e' : op' w u with
        | none => rw [e'] at h3; exact h3.elim
        | some d' =>
          rw [e'] at h3
          refine ho' O H3 y t w u d' r4.alv e' (Sub.dp (f3.fwd r3.sub) ((gr.cut O).dp qy)) qt Q fun z' H4 gr' qz' => ?_
          exact h3 H4 (gr'.stp A) (r4.grow gr') z' qz'
      | false =>
        refine (if_neg Bool.false_ne_true).mpr ?_
        exact h2 H' (gr.stp A) r3 _ (.bl false)
    | none => exact h2.elim
    | int _ => exact h2.elim
    | str _ => exact h2.elim
    | list _ => exact h2.elim
    | tuple _ => exact h2.elim
    | dict _ => exact h2.elim
theorem d_chain {e3 : Expr} {o o' : CmpOp} {r r' : R2} {op op' : D → D → Option D} (hp : OpR X (compareOp o) r) (hp' : OpR X (compareOp o') r') (ho : Op2 c r op) (ho' : Op2 c r' op') (ha : DE c X W a f) (hb : DE c X W b g) (hc : DE c X W e3 h)
    (hm : lastMarks [o, o'] [b, e3] = false := by with_unfolding_all rfl) : DE c X W (.Compare a [o, o'] [b, e3] pos) (mChain f g h op op') := by
  obtain ⟨ta, pa, sa⟩ := ha
  obtain ⟨tb, pb, sb⟩ := hb
  obtain ⟨tc, pc, sc⟩ := hc
  exact ⟨_, pe_chain hp hp' pa pb pc hm, sem_chain ho ho' sa sb sc⟩
theorem t_chain {e3 : Expr} {o o' : CmpOp} {r r' : R2} {op op' : D → D → Option D} (hp : OpR X (compareOp o) r) (hp' : OpR X (compareOp o') r') (ho : Op2 c r op) (ho' : Op2 c r' op') (ha : DE c X W a f) (hb : DE c X W b g) (hc : DE c X W e3 h)
    (hm : lastMarks [o, o'] [b, e3] = false := by with_unfolding_all rfl) : DT c X W (.Compare a [o, o'] [b, e3] pos) (mT (mChain f g h op op')) := by
  obtain ⟨ta, pa, sa⟩ := ha
  obtain ⟨tb, pb, sb⟩ := hb
  obtain ⟨tc, pc, sc⟩ := hc
  exact ⟨_, pt_chain hp hp' pa pb pc hm, sem_test (sem_chain ho ho' sa sb sc)⟩
theorem tru_of {K : PySem.W.Frag} {O : List Addr} {H : Hp} {v : V} {d : D} {k : Bool} (h : Dp K (cut O H) v d) (e : truth d = some k) : TruV K v H k := by
  cases d with
  | none =>
    have z := dp_non h
    subst z
    exact (Option.some.inj (show some false = some k from e)).symm
  | bool b =>
    have z := dp_bool h
    subst z
    exact (Option.some.inj (show some b = some k from e)).symm
  | int i =>
    have z := dp_int h
    subst z
    exact (Option.some.inj (show some (i != 0) = some k from e)).symm
  | str x =>
    have z := dp_str h
    subst z
    have e' : (if x.length ≤ sizeLine then some ((x.length : Int) != 0) else none) = some k := e
    by_cases hx : x.length ≤ sizeLine
    · rw [if_pos hx] at e'; exact ⟨hx, (Option.some.inj e').symm⟩
    · rw [if_neg hx] at e'; cases e'
  | list ds =>
    obtain ⟨a, xs, rfl, q, r⟩ := dp_list h
    have l := dpa_len r
    have e := (Option.some.inj (show some (!ds.isEmpty) = some k from e))
    refine .inl ⟨xs, (Sub.cut O H).sql q, ?_⟩
    rw [← e]
    cases xs <;> cases ds <;> simp at l ⊢
  | tuple ds =>
    obtain ⟨a, xs, rfl, q, r⟩ := dp_tup h
    have l := dpa_len r
    have e := (Option.some.inj (show some (!ds.isEmpty) = some k from e))
    refine .inr (.inl ⟨xs, (Sub.cut O H).sqt q, ?_⟩)
    rw [← e]
    cases xs <;> cases ds <;> simp at l ⊢
  | dict _ => cases e
/-- any value as a test -/
theorem t_tru (hc : c.K = X.K := by rfl) (he : DE c X W a f) (hp : ∀ whole, isTrue a X.env whole = (do let v ← whole; standAt a.pos; holding [v] (truthy v)) := by intro _; rfl) : DT c X W a (mTru f) := by
  obtain ⟨te, pe, se⟩ := he
  refine ⟨_, pt_truth pe hp, ?_⟩
  intro O A σ H s r Q h
  refine se O A σ H s r _ (Wp.mono (Wp.bind h) ?_)
  intro d s1 H1 _ f1 r1 h1 v q
  cases e : truth d with
  | none => rw [e] at h1; exact h1.elim
  | some k =>
    rw [e] at h1
    exact ⟨k, hc ▸ tru_of q e, h1 H1 (Stp.refl _ _) r1⟩
theorem sem_and {t u : TT} (h1 : SemT c W t ft) (h2 : SemT c W u gt) : SemT c W (tAnd t u) (mAnd ft gt) := by
  intro O A σ H s r Q h
  refine h1 O A σ H s r _ (Wp.mono (Wp.bind h) ?_)
  intro b s1 H1 _ f1 r1 w1
  cases b with
  | true =>
    refine (if_pos rfl).mpr ?_
    exact h2 O A σ H1 s1 r1 Q ((if_pos rfl : (if true = true then gt s1 else _) = gt s1) ▸ w1)
  | false =>
    refine (if_neg Bool.false_ne_true).mpr ?_
    exact w1 H1 (Stp.refl _ _) r1
theorem sem_or {t u : TT} (h1 : SemT c W t ft) (h2 : SemT c W u gt) : SemT c W (tOr t u) (mOr ft gt) := by
  intro O A σ H s r Q h
  refine h1 O A σ H s r _ (Wp.mono (Wp.bind h) ?_)
  intro b s1 H1 _ f1 r1 w1
  cases b with
  | true =>
    refine (if_pos rfl).mpr ?_
    exact w1 H1 (Stp.refl _ _) r1
  | false =>
    refine (if_neg Bool.false_ne_true).mpr ?_
    exact h2 O A σ H1 s1 r1 Q w1
theorem sem_not {t : TT} (h1 : SemT c W t ft) : SemT c W (tNot t) (mNot ft) := by
  intro O A σ H s r Q h
  refine h1 O A σ H s r _ (Wp.mono (Wp.bind h) ?_)
  intro b s1 H1 _ f1 r1 w1
  exact w1 H1 (Stp.refl _ _) r1
/-- and, or chains as tests -/
def DW (c : Cf) (X : Cx) (W : WX) (e : Expr) (f : M Bool) : Prop := ∃ tt, PW X e tt ∧ SemT c W tt f
theorem w_and1 (ha : DT c X W a ft) : DW c X W (.BoolOp .And [a] pos) ft := by obtain ⟨t, p, s⟩ := ha; exact ⟨t, pw_and1 p, s⟩
theorem w_or1 (ha : DT c X W a ft) : DW c X W (.BoolOp .Or [a] pos) ft := by obtain ⟨t, p, s⟩ := ha; exact ⟨t, pw_or1 p, s⟩
theorem w_and {rest : List Expr} (ha : DT c X W a ft) (hb : DW c X W (.BoolOp .And (b :: rest) pos) gt) : DW c X W (.BoolOp .And (a :: b :: rest) pos) (mAnd ft gt) := by
  obtain ⟨t, p, s⟩ := ha
  obtain ⟨u, q, s'⟩ := hb
  exact ⟨_, pw_and p q, sem_and s s'⟩
theorem w_or {rest : List Expr} (ha : DT c X W a ft) (hb : DW c X W (.BoolOp .Or (b :: rest) pos) gt) : DW c X W (.BoolOp .Or (a :: b :: rest) pos) (mOr ft gt) := by
  obtain ⟨t, p, s⟩ := ha
  obtain ⟨u, q, s'⟩ := hb
  exact ⟨_, pw_or p q, sem_or s s'⟩
theorem t_bo (h : DW c X W a ft) : DT c X W a ft := by obtain ⟨t, p, s⟩ := h; exact ⟨t, p.pt, s⟩
theorem t_not (ha : DT c X W a ft) : DT c X W (.UnaryOp .Not a pos) (mNot ft) := by obtain ⟨t, p, s⟩ := ha; exact ⟨_, pt_not p, sem_not s⟩
/-- .. as values -/
theorem sem_andV {ta tb : TE} (h1 : SemE c W ta f) (h2 : SemE c W tb g) : SemE c W (tAndV ta tb) (mAndV f g) := by
  intro O A σ H s r Q h
  refine h1 O A σ H s r _ (Wp.mono (Wp.bind h) ?_)
  intro d s1 H1 _ f1 r1 w1 v q
  cases e : asB d with
  | none => rw [e] at w1; exact w1.elim
  | some k =>
    rw [e] at w1
    have z := asB_some e
    subst z
    refine ⟨k, dp_bool q, ?_⟩
    cases k with
    | true => exact (if_pos rfl).mpr (h2 O A σ H1 s1 r1 Q w1)
    | false => exact (if_neg Bool.false_ne_true).mpr (w1 H1 (Stp.refl _ _) r1 _ (.bl false))
theorem sem_orV {ta tb : TE} (h1 : SemE c W ta f) (h2 : SemE c W tb g) : SemE c W (tOrV ta tb) (mOrV f g) := by
  intro O A σ H s r Q h
  refine h1 O A σ H s r _ (Wp.mono (Wp.bind h) ?_)
  intro d s1 H1 _ f1 r1 w1 v q
  cases e : asB d with
  | none => rw [e] at w1; exact w1.elim
  | some k =>
    rw [e] at w1
    have z := asB_some e
    subst z
    refine ⟨k, dp_bool q, ?_⟩
    cases k with
    | true => exact (if_pos rfl).mpr (w1 H1 (Stp.refl _ _) r1 _ (.bl true))
    | false => exact (if_neg Bool.false_ne_true).mpr (h2 O A σ H1 s1 r1 Q w1)
theorem d_one {op : BoolOp} (ha : DE c X W a f) : DE c X W (.BoolOp op [a] pos) f := by obtain ⟨t, p, s⟩ := ha; exact ⟨t, pe_one p, s⟩
theorem d_and {rest : List Expr} (ha : DE c X W a f) (hb : DE c X W (.BoolOp .And (b :: rest) pos) g) : DE c X W (.BoolOp .And (a :: b :: rest) pos) (mAndV f g) := by
  obtain ⟨t, p, s⟩ := ha
  obtain ⟨u, q, s'⟩ := hb
  exact ⟨_, pe_and p q, sem_andV s s'⟩
theorem d_or {rest : List Expr} (ha : DE c X W a f) (hb : DE c X W (.BoolOp .Or (b :: rest) pos) g) : DE c X W (.BoolOp .Or (a :: b :: rest) pos) (mOrV f g) := by
  obtain ⟨t, p, s⟩ := ha
  obtain ⟨u, q, s'⟩ := hb
  exact ⟨_, pe_or p q, sem_orV s s'⟩
theorem d_not (ha : DE c X W a f) : DE c X W (.UnaryOp .Not a pos) (mNotV f) := by
  obtain ⟨t, p, s⟩ := ha
  refine ⟨_, pe_not p, ?_⟩
  intro O A σ H st r Q h
  refine s O A σ H st r _ (Wp.mono (Wp.bind h) ?_)
  intro d s1 H1 _ f1 r1 w1 v q
  have w1 : Wp c W O A σ H1 (lift ((asB d).map fun b => PyData.bool !b) s1) (PV c O Q) := w1
  cases e : asB d with
  | none => rw [e] at w1; exact w1.elim
  | some k =>
    rw [e] at w1
    have z := asB_some e
    subst z
    exact ⟨k, dp_bool q, w1 H1 (Stp.refl _ _) r1 _ (.bl _)⟩
theorem d_if {t : Expr} (ht : DT c X W t ft) (ha : DE c X W a f) (hb : DE c X W b g) : DE c X W (.IfExp t a b pos) (mIf ft f g) := by
  obtain ⟨tt, pt, st⟩ := ht
  obtain ⟨ta, pa, sa⟩ := ha
  obtain ⟨tb, pb, sb⟩ := hb
  refine ⟨_, pe_ifExp pt pa pb, ?_⟩
  intro O A σ H s r Q h
  refine st O A σ H s r _ (Wp.mono (Wp.bind h) ?_)
  intro k s1 H1 _ f1 r1 w1
  cases k with
  | true => exact (if_pos rfl).mpr (sa O A σ H1 s1 r1 Q w1)
  | false => exact (if_neg Bool.false_ne_true).mpr (sb O A σ H1 s1 r1 Q w1)

/-! ### argument lists, displays, calls of built-ins -/
def mNil : M (List D) := fun s => .ok [] s
def mCons (f : M D) (g : M (List D)) : M (List D) := fun s => (f s).bind fun d s1 => (g s1).bind fun ds s2 => .ok (d :: ds) s2
theorem da_nil : DA c X W [] mNil := ⟨_, pa_nil, fun O A σ H s r Q h => h H (Stp.refl _ _) r [] .nil⟩
theorem da_cons {es : List Expr} {gs : M (List D)} (ha : DE c X W a f) (hr : DA c X W es gs) (hs : starEach (a :: es) X.env = (false, eval a X.env) :: starEach es X.env := by rfl) : DA c X W (a :: es) (mCons f gs) := by
  obtain ⟨te, pe, se⟩ := ha
  obtain ⟨ta, pa, sa⟩ := hr
  refine ⟨_, pa_cons pe pa hs, ?_⟩
  intro O A σ H s r Q h
  refine se O A σ H s r _ (Wp.mono (Wp.bind h) ?_)
  intro d s1 H1 _ f1 r1 h1 v q
  refine sa O A σ H1 s1 r1 _ (Wp.mono (Wp.bind h1) ?_)
  intro ds s2 H2 _ f2 r2 h2 vs qs
  exact h2 H2 (Stp.refl _ _) r2 _ (.cons (Sub.dp (f2.fwd r1.sub) q) qs)
def mkT (ds : List D) : Option D := if ds.length ≤ sizeLine then some (.tuple ds) else none
def mkL (ds : List D) : Option D := if ds.length ≤ sizeLine then some (.list ds) else none
theorem dp_newT {O : List Addr} {K : PySem.W.Frag} {H : Hp} {p : Addr} {vs : List V} {ds : List D} (hp : H p = none) (hO : p ∉ O) (q : DpAll K (cut O H) vs ds) : Dp K (cut O (upd H p (.tup vs))) (.ref p) (.tuple ds) := by
  refine .tup (.inl (.inl ?_)) (Sub.dpa (fun a o h _ => ?_) q)
  · rw [cut_out hO]; exact upd_same
  · obtain ⟨h1, h2⟩ := cut_some h
    rw [cut_out h1, upd_ne (ne_of_none h2 hp)]
    exact h2
theorem dp_newL {O : List Addr} {K : PySem.W.Frag} {H : Hp} {p : Addr} {vs : List V} {ds : List D} (hp : H p = none) (hO : p ∉ O) (q : DpAll K (cut O H) vs ds) : Dp K (cut O (upd H p (.lst vs))) (.ref p) (.list ds) := by
  refine .lst (.inl (.inl ?_)) (Sub.dpa (fun a o h _ => ?_) q)
  · rw [cut_out hO]; exact upd_same
  · obtain ⟨h1, h2⟩ := cut_some h
    rw [cut_out h1, upd_ne (ne_of_none h2 hp)]
    exact h2
theorem fresh_of {O : List Addr} {H : Hp} {p : Addr} (al : ∀ a ∈ O, ∃ o, H a = some o ∧ NT o) (hp : H p = none) : p ∉ O := fun q => by
  obtain ⟨o, e, _⟩ := al p q
  rw [hp] at e; cases e
theorem d_tup {es : List Expr} {gs : M (List D)} {x1} (h : DA c X W es gs) : DE c X W (.Tuple es x1 pos) (mMap gs mkT) := by
  obtain ⟨ta, pa, sa⟩ := h
  refine ⟨_, pe_tup pa, ?_⟩
  intro O A σ H s r Q h
  refine sa O A σ H s r _ (Wp.mono (Wp.bind h) ?_)
  intro ds s1 H1 _ f1 r1 h1 vs qs
  unfold mkT at h1
  by_cases hl : ds.length ≤ sizeLine
  · rw [if_pos hl] at h1
    refine ⟨by rw [dpa_len qs]; exact hl, fun p hp => ?_⟩
    exact h1 _ ((Grow.new (c := c) hp).stp A) (r1.grow (Grow.new hp)) _ (dp_newT hp (r1.fresh hp) qs)
  · rw [if_neg hl] at h1; exact h1.elim
theorem d_lst {es : List Expr} {gs : M (List D)} (h : DA c X W es gs) : DE c X W (.List es pos) (mMap gs mkL) := by
  obtain ⟨ta, pa, sa⟩ := h
  refine ⟨_, pe_lst pa, ?_⟩
  intro O A σ H s r Q h
  refine sa O A σ H s r _ (Wp.mono (Wp.bind h) ?_)
  intro ds s1 H1 _ f1 r1 h1 vs qs
  unfold mkL at h1
  by_cases hl : ds.length ≤ sizeLine
  · rw [if_pos hl] at h1
    refine ⟨by rw [dpa_len qs]; exact hl, fun p hp => ?_⟩
    exact h1 _ ((Grow.new (c := c) hp).stp A) (r1.grow (Grow.new hp)) _ (dp_newL hp (r1.fresh hp) qs)
  · rw [if_neg hl] at h1; exact h1.elim
theorem sem_cb {r : List V → Hp → VK → Prop} {op : List D → Option D} {ta : TA} {gs : M (List D)} (ho : OpN c r op) (ha : SemA c W ta gs) : SemE c W (tCB r ta) (mMap gs op) := by
  intro O A σ H s re Q h
  refine ha O A σ H s re _ (Wp.mono (Wp.bind h) ?_)
  intro ds s1 H1 _ f1 r1 h1 vs qs
  cases e : op ds with
  | none => rw [e] at h1; exact h1.elim
  | some d =>
    rw [e] at h1
    refine ho O H1 vs ds d r1.alv e qs Q fun z H' gr qz => ?_
    exact h1 H' (gr.stp A) (r1.grow gr) z qz
theorem d_callB {id : String} {x : Str} {p : Pos} {r : List V → Hp → VK → Prop} {op : List D → Option D} {es : List Expr} {gs : M (List D)} (hc : CallR X (.builtin id) r) (ho : OpN c r op) (hm : X.mg x = none) (hv : bootBuiltins x = some (.builtin id)) (ha : DA c X W (a :: es) gs) (hg : Gl X x := by rfl)
    (hn : x ≠ "__name__" := by decide) (hdb : (x == ("__debug__" : Str)) = false := by decide)
    (he : starEach (a :: es) X.env = (false, eval a X.env) :: starEach es X.env := by rfl) (hpl : (backTo pos (starEach es X.env)).any (·.1) = false := by rfl) : DE c X W (.Call (.Name x p) (a :: es) [] pos) (mMap gs op) := by
  obtain ⟨ta, pa, sa⟩ := ha
  exact ⟨_, pe_callB hc hg hm hv pa hn hdb he hpl, sem_cb ho sa⟩
theorem d_callTy {T : String} {x : Str} {p : Pos} {r : List V → Hp → VK → Prop} {op : List D → Option D} {es : List Expr} {gs : M (List D)} (hc : CallR X (.type T) r) (ho : OpN c r op) (hm : X.mg x = none) (hv : bootBuiltins x = some (.type T)) (ha : DA c X W (a :: es) gs) (hg : Gl X x := by rfl)
    (hn : x ≠ "__name__" := by decide) (hdb : (x == ("__debug__" : Str)) = false := by decide)
    (he : starEach (a :: es) X.env = (false, eval a X.env) :: starEach es X.env := by rfl) (hpl : (backTo pos (starEach es X.env)).any (·.1) = false := by rfl) : DE c X W (.Call (.Name x p) (a :: es) [] pos) (mMap gs op) := by
  obtain ⟨ta, pa, sa⟩ := ha
  exact ⟨_, pe_callTy hc hg hm hv pa hn hdb he hpl, sem_cb ho sa⟩
end
end DL

namespace DL
open PySem PySem.Spec L2
/-! ### statements -/
inductive Out where
  | nx (s : Sts)
  | ret (d : D) (s : Sts)
  | brk (s : Sts)
  | ct (s : Sts)
  | err (x : Str) (s : Sts)
  | bad
abbrev G := Sts → Out
def WpS (c : Cf) (W : WX) (O : List Addr) (H : Hp) (r : Out) (E : Ends) : Prop := match r with
  | .nx s' => ∀ O' A' σ' H', Fwd O H O' H' → Rel c O' A' σ' H' s' → E.nx σ' H'
  | .ret d s' => ∀ O' A' σ' H' v, Fwd O H O' H' → Rel c O' A' σ' H' s' → Dp c.K (cut O' H') v d → E.rt v H'
  | .brk s' => ∀ O' A' σ' H', Fwd O H O' H' → Rel c O' A' σ' H' s' → E.bk σ' H'
  | .ct s' => ∀ O' A' σ' H', Fwd O H O' H' → Rel c O' A' σ' H' s' → E.ct σ' H'
  | .err x s' => ∀ O' A' σ' H', Fwd O H O' H' → Rel c O' A' σ' H' s' → W (.ref (c.ca x)) none σ' H'
  | .bad => False
def SemS (c : Cf) (W : WX) (tu : TS) (g : G) : Prop := ∀ O A σ H s, Rel c O A σ H s → ∀ E : Ends, WpS c W O H (g s) E → tu E σ H
def DS (c : Cf) (X : Cx) (W : WX) (st : Stmt) (g : G) : Prop := ∃ tu, PS X st tu ∧ SemS c W tu g
def DSs (c : Cf) (X : Cx) (W : WX) (sts : List Stmt) (g : G) : Prop := ∃ tu, PSs X sts tu ∧ SemS c W tu g
theorem WpS.fwd {c : Cf} {W : WX} {O O1 : List Addr} {H H1 : Hp} {r : Out} {E : Ends} (f : Fwd O H O1 H1) (h : WpS c W O H r E) : WpS c W O1 H1 r E := by
  cases r with
  | nx s' => exact fun O' A' σ' H' f' q => h O' A' σ' H' (f.trans f') q
  | ret d s' => exact fun O' A' σ' H' v f' q => h O' A' σ' H' v (f.trans f') q
  | brk s' => exact fun O' A' σ' H' f' q => h O' A' σ' H' (f.trans f') q
  | ct s' => exact fun O' A' σ' H' f' q => h O' A' σ' H' (f.trans f') q
  | err x s' => exact fun O' A' σ' H' f' q => h O' A' σ' H' (f.trans f') q
  | bad => exact h
/-- an expression's result, then a statement's end -/
def ex {α : Type} (r : Rs α) (k : α → G) : Out := match r with
  | .ok a s => k a s
  | .err x s => .err x s
  | .bad => .bad
@[simp] theorem ex_ok {α : Type} (a : α) (s : Sts) (k : α → G) : ex (.ok a s) k = k a s := rfl
@[simp] theorem ex_err {α : Type} (x : Str) (s : Sts) (k : α → G) : ex (.err x s : Rs α) k = .err x s := rfl
@[simp] theorem ex_bad {α : Type} (k : α → G) : ex (.bad : Rs α) k = .bad := rfl
theorem wp_ex {α : Type} {c : Cf} {W : WX} {O A : List Addr} {σ : St} {H : Hp} {r : Rs α} {k : α → G} {E : Ends} (hs : ∀ a ∈ A, a ∈ O) (h : WpS c W O H (ex r k) E) :
    Wp c W O A σ H r (fun a s' H' => WpS c W O H' (k a s') E) := by
  cases r with
  | ok a s' => exact fun H' f _ => WpS.fwd (f.fwd hs) h
  | err x s' => exact fun H' f q => h O A σ H' (f.fwd hs) q
  | bad => exact h
def thenG (r : Out) (k : G) : Out := match r with
  | .nx s => k s
  | r => r
@[simp] theorem then_nx (s : Sts) (k : G) : thenG (.nx s) k = k s := rfl
@[simp] theorem then_ret (d : D) (s : Sts) (k : G) : thenG (.ret d s) k = .ret d s := rfl
@[simp] theorem then_brk (s : Sts) (k : G) : thenG (.brk s) k = .brk s := rfl
@[simp] theorem then_ct (s : Sts) (k : G) : thenG (.ct s) k = .ct s := rfl
@[simp] theorem then_err (x : Str) (s : Sts) (k : G) : thenG (.err x s) k = .err x s := rfl
@[simp] theorem then_bad (k : G) : thenG .bad k = .bad := rfl
def sSeq (g h : G) : G := fun s => thenG (g s) h
def sNext : G := fun s => .nx s
def sRet (f : M D) : G := fun s => ex (f s) fun d s1 => .ret d s1
def sRetN : G := fun s => .ret .none s
def sDrop (f : M D) : G := fun s => ex (f s) fun _ s1 => .nx s1
def sIf (t : M Bool) (g h : G) : G := fun s => ex (t s) fun b s1 => if b = true then g s1 else h s1
def sRaise (x : Str) : G := fun s => .err x s
def sBreak : G := fun s => .brk s
def sCont : G := fun s => .ct s
def optG (o : Option Sts) : Out := match o with
  | some s => .nx s
  | none => .bad
@[simp] theorem optG_some (s : Sts) : optG (some s) = .nx s := rfl
@[simp] theorem optG_none : optG none = .bad := rfl
/-- a name that is no owned list takes a value -/
def setD (i : Nat) (d : D) (s : Sts) : Option Sts := match s[i]? with
  | some .un => some (s.set i (.dat d))
  | some (.dat _) => some (s.set i (.dat d))
  | _ => none
abbrev Tg := D → Sts → Option Sts
def tName (i : Nat) : Tg := fun d s => setD i d s
def sAsg (f : M D) (t : Tg) : G := fun s => ex (f s) fun d s1 => optG (t d s1)
theorem Rel.setD {c : Cf} {O A : List Addr} {σ : St} {H : Hp} {s s' : Sts} {i : Nat} {d : D} {v : V} (r : Rel c O A σ H s) (e : setD i d s = some s') (q : Dp c.K (cut O H) v d) : Rel c O A (σ.set i (some v)) H s' := by
  have hi : ∃ x, s[i]? = some x ∧ (∀ ds, x ≠ .own ds) ∧ s' = s.set i (.dat d) := by
    unfold DL.setD at e
    cases z : s[i]? with
    | none => rw [z] at e; cases e
    | some x =>
      rw [z] at e
      cases x with
      | un => exact ⟨_, rfl, (fun _ q => by cases q), (Option.some.inj e).symm⟩
      | dat _ => exact ⟨_, rfl, (fun _ q => by cases q), (Option.some.inj e).symm⟩
      | own _ => cases e
      | dic _ => cases e
  obtain ⟨x, hx, hn, rfl⟩ := hi
  have hl : i < s.length := (List.getElem?_eq_some_iff.mp hx).1
  have hσ : i < σ.length := by rw [r.len]; exact hl
  have ne : ∀ j y, (s.set i (.dat d))[j]? = some y → (j = i ∧ y = .dat d) ∨ (j ≠ i ∧ s[j]? = some y) := fun j y h => by
    by_cases hj : j = i
    · subst hj
      rw [List.getElem?_set_self hl] at h
      exact .inl ⟨rfl, (Option.some.inj h).symm⟩
    · rw [List.getElem?_set_ne (Ne.symm hj)] at h
      exact .inr ⟨hj, h⟩
  refine ⟨by rw [List.length_set, List.length_set]; exact r.len, r.sub, r.alv, fun j y h => ?_, fun j k ds es l h1 h2 o1 o2 h3 h4 => ?_, r.kp, r.fr, r.z0, r.o0, fun p hp => ?_, r.tb⟩
  · rcases ne j y h with ⟨rfl, rfl⟩ | ⟨hj, h⟩
    · rw [List.getElem?_set_self hσ]
      exact ⟨v, rfl, q⟩
    · rw [List.getElem?_set_ne (Ne.symm hj)]
      exact r.slot j y h
  · rcases ne j _ h1 with ⟨_, z⟩ | ⟨hj, h1⟩
    · subst z; cases o1
    · rcases ne k _ h2 with ⟨_, z⟩ | ⟨hk, h2⟩
      · subst z; cases o2
      · rw [List.getElem?_set_ne (Ne.symm hj)] at h3
        rw [List.getElem?_set_ne (Ne.symm hk)] at h4
        exact r.inj j k ds es l h1 h2 o1 o2 h3 h4
  · obtain ⟨h1, h2, ds, h3⟩ := r.pn p hp
    have hne : p.1 ≠ i := fun z => by
      rw [z, hx] at h3
      exact hn ds (Option.some.inj h3)
    refine ⟨h1, ?_, ds, ?_⟩
    · rw [List.getElem?_set_ne (Ne.symm hne)]; exact h2
    · rw [List.getElem?_set_ne (Ne.symm hne)]; exact h3

/-- a target's reading -/
def SameBut (vs : List Nat) (σ σ' : St) : Prop := σ'.length = σ.length ∧ ∀ i, i ∉ vs → σ'[i]? = σ[i]?
def SemG (c : Cf) (g : TG) (vs : List Nat) (t : Tg) : Prop := ∀ O A σ H s, Rel c O A σ H s → ∀ v d s', Dp c.K (cut O H) v d → t d s = some s' → ∀ Q : St → Hp → Prop, (∀ σ', SameBut vs σ σ' → Rel c O A σ' H s' → Q σ' H) → g v σ H Q
def DG (c : Cf) (X : Cx) (e : Expr) (vs : List Nat) (t : Tg) : Prop := ∃ g, PG X e g ∧ SemG c g vs t
section
variable {c : Cf} {X : Cx} {W : WX} {a b : Expr} {f : M D} {ft : M Bool} {g h : G} {pos : Pos} {st : Stmt} {rest : List Stmt}
theorem sem_gname (i : Nat) : SemG c (gName i) [i] (tName i) := fun O A σ H s r v d s' q e Q k => k _ ⟨by rw [List.length_set], fun j hj => List.getElem?_set_ne (fun z => hj (by simp [z]))⟩ (r.setD e q)
theorem dg_name (i : Nat) {x : Str} (hN : X.N.Nodup) (hi : X.N[i]? = some x := by rfl) (hx : Loc X.env.scope x := by first | exact .inl rfl | exact .inr rfl)
    (hf : X.fn x = true ∨ X.env.scope.names.lookup x = some .local := by first | exact .inl rfl | exact .inr rfl) : DG c X (.Name x pos) [i] (tName i) := ⟨_, pg_name hN hi hx hf, sem_gname i⟩
abbrev Tgs := List D → Sts → Option Sts
def tsNil : Tgs := fun ds s => match ds with
  | [] => some s
  | _ => none
def tsCons (t : Tg) (u : Tgs) : Tgs := fun ds s => match ds with
  | d :: r => (t d s).bind (u r)
  | [] => none
def tTupG (n : Nat) (t : Tgs) : Tg := fun d s => match d with
  | .tuple ds => if ds.length = n then t ds s else none
  | _ => none
def SemGs (c : Cf) (g : TGs) (ix : List Nat) (t : Tgs) : Prop := ∀ O A σ H s, Rel c O A σ H s → ∀ vs ds s', DpAll c.K (cut O H) vs ds → t ds s = some s' → ∀ Q : St → Hp → Prop, (∀ σ', SameBut ix σ σ' → Rel c O A σ' H s' → Q σ' H) → g vs σ H Q
def DGs (c : Cf) (X : Cx) (es : List Expr) (ix : List Nat) (t : Tgs) : Prop := ∃ g, PGs X es g ∧ SemGs c g ix t
theorem dgs_nil : DGs c X [] [] tsNil := by
  refine ⟨_, pgs_nil, ?_⟩
  intro O A σ H s r vs ds s' q e Q k
  cases ds with
  | nil =>
    cases q
    have e := Option.some.inj e
    subst e
    exact ⟨rfl, k σ ⟨rfl, fun _ _ => rfl⟩ r⟩
  | cons _ _ => cases e
theorem dgs_cons {es : List Expr} {t : Tg} {u : Tgs} {ix iy : List Nat} (h1 : DG c X a ix t) (h2 : DGs c X es iy u) (hs : (assignEach (a :: es) X.env).map (·.2) = assign a X.env :: (assignEach es X.env).map (·.2) := by rfl) : DGs c X (a :: es) (ix ++ iy) (tsCons t u) := by
  obtain ⟨g1, p1, s1⟩ := h1
  obtain ⟨g2, p2, s2⟩ := h2
  refine ⟨_, pgs_cons p1 p2 hs, ?_⟩
  intro O A σ H s r vs ds s' q e Q k
  cases ds with
  | nil => cases e
  | cons d dr =>
    cases q with
    | cons q1 q2 =>
      have e : (t d s).bind (u dr) = some s' := e
      cases z : t d s with
      | none => rw [z] at e; cases e
      | some sm =>
        rw [z] at e
        refine ⟨_, _, rfl, s1 O A σ H s r _ d sm q1 z _ fun σ1 b1 r1 => ?_⟩
        refine s2 O A σ1 H sm r1 _ dr s' q2 e Q fun σ2 b2 r2 => k σ2 ⟨b2.1.trans b1.1, fun j hj => ?_⟩ r2
        rw [List.mem_append, not_or] at hj
        exact (b2.2 j hj.2).trans (b1.2 j hj.1)
theorem dg_tup {es : List Expr} {k : Nat} {t : Tgs} {n : Nat} {ix : List Nat} (h : DGs c X es ix t) (hc : X.calm = true := by rfl) (hK : c.K = X.K := by rfl)
    (hn : (assignEach es X.env).length = n := by rfl) (hst : (assignEach es X.env).findIdx? (·.1) = none := by rfl) : DG c X (.Tuple es k pos) ix (tTupG n t) := by
  obtain ⟨g, p, sg⟩ := h
  refine ⟨_, pg_tup hc p hn hst, ?_⟩
  intro O A σ H s r v d s' q e Q k
  cases d with
  | tuple ds =>
    obtain ⟨p, xs, rfl, hq, ha⟩ := dp_tup q
    have e : (if ds.length = n then t ds s else none) = some s' := e
    by_cases hl : ds.length = n
    · rw [if_pos hl] at e
      exact ⟨p, xs, rfl, hK ▸ (Sub.cut O H).sqt hq, by rw [dpa_len ha]; exact hl, sg O A σ H s r xs ds s' ha e Q k⟩
    · rw [if_neg hl] at e; cases e
  | none => cases e
  | bool _ => cases e
  | int _ => cases e
  | str _ => cases e
  | list _ => cases e
  | dict _ => cases e

theorem s_nil : DSs c X W [] sNext := ⟨_, pss_nil, fun O A σ H s r E h => h O A σ H (Fwd.refl _ _) r⟩
theorem sem_seq {t u : TS} (h1 : SemS c W t g) (h2 : SemS c W u h) : SemS c W (tSeq t u) (sSeq g h) := by
  intro O A σ H s r E w
  refine h1 O A σ H s r _ ?_
  unfold sSeq at w
  cases z : g s with
  | nx s' =>
    rw [z] at w
    intro O' A' σ' H' f r'
    exact h2 O' A' σ' H' s' r' E (WpS.fwd f w)
  | ret d s' => rw [z] at w; exact w
  | brk s' => rw [z] at w; exact w
  | ct s' => rw [z] at w; exact w
  | err x s' => rw [z] at w; exact w
  | bad => rw [z] at w; exact w
theorem s_cons (h1 : DS c X W st g) (h2 : DSs c X W rest h) : DSs c X W (st :: rest) (sSeq g h) := by
  obtain ⟨t, p, s⟩ := h1
  obtain ⟨u, q, s'⟩ := h2
  exact ⟨_, pss_cons p q, sem_seq s s'⟩
theorem s_one (h1 : DS c X W st g) : DSs c X W [st] g := by
  obtain ⟨t, p, s⟩ := h1
  exact ⟨_, pss_one p, s⟩
theorem s_asg {tg : Expr} {t : Tg} {ix : List Nat} (he : DE c X W a f) (hg : DG c X tg ix t) (hs : swapsWithSole [tg] a pos.line X.env = pure false := by rfl) (hw : swappedStores [tg] a X.env = pure none := by rfl)
    (h1 : (assignEach [tg] X.env).map (·.2) = [assign tg X.env] := by rfl) : DS c X W (.Assign [tg] a pos) (sAsg f t) := by
  obtain ⟨te, pe, se⟩ := he
  obtain ⟨tg, pg, sg⟩ := hg
  refine ⟨_, ps_asg pe pg hs hw h1, ?_⟩
  intro O A σ H s r E w
  refine se O A σ H s r _ (Wp.mono (wp_ex r.sub w) ?_)
  intro d s1 H1 _ f1 r1 w1 v q
  cases z : t d s1 with
  | none => rw [z] at w1; exact w1.elim
  | some s2 =>
    rw [z] at w1
    exact sg O A σ H1 s1 r1 v d s2 q z _ fun σ' _ r' => w1 O A σ' H1 (Fwd.refl _ _) r'
theorem s_ret (he : DE c X W a f) : DS c X W (.Return (some a) pos) (sRet f) := by
  obtain ⟨te, pe, se⟩ := he
  refine ⟨_, ps_ret pe, ?_⟩
  intro O A σ H s r E w
  refine se O A σ H s r _ (Wp.mono (wp_ex r.sub w) ?_)
  intro d s1 H1 _ f1 r1 w1 v q
  exact w1 O A σ H1 v (Fwd.refl _ _) r1 q
theorem s_retN : DS c X W (.Return none pos) sRetN := ⟨_, ps_retN, fun O A σ H s r E w => w O A σ H _ (Fwd.refl _ _) r .non⟩
theorem s_expr (he : DE c X W a f) (hs : swapsWith a none pos.line X.env = pure false := by rfl) : DS c X W (.Expr a pos) (sDrop f) := by
  obtain ⟨te, pe, se⟩ := he
  refine ⟨_, ps_expr pe hs, ?_⟩
  intro O A σ H s r E w
  refine se O A σ H s r _ (Wp.mono (wp_ex r.sub w) ?_)
  intro d s1 H1 _ f1 r1 w1 v q
  exact w1 O A σ H1 (Fwd.refl _ _) r1
theorem s_if {ba bb : List Stmt} (ht : DT c X W a ft) (h1 : DSs c X W ba g) (h2 : DSs c X W bb h) : DS c X W (.If a ba bb pos) (sIf ft g h) := by
  obtain ⟨tt, pt, st⟩ := ht
  obtain ⟨t, p, s1⟩ := h1
  obtain ⟨u, q, s2⟩ := h2
  refine ⟨_, ps_if pt p q, ?_⟩
  intro O A σ H s r E w
  refine st O A σ H s r _ (Wp.mono (wp_ex r.sub w) ?_)
  intro k s' H1 _ f1 r1 w1
  cases k with
  | true => exact (if_pos rfl).mpr (s1 O A σ H1 s' r1 E w1)
  | false => exact (if_neg Bool.false_ne_true).mpr (s2 O A σ H1 s' r1 E w1)
theorem s_pass : DS c X W (.Pass pos) sNext := ⟨_, ps_pass, fun O A σ H s r E h => h O A σ H (Fwd.refl _ _) r⟩
theorem s_break : DS c X W (.Break pos) sBreak := ⟨_, ps_break, fun O A σ H s r E h => h O A σ H (Fwd.refl _ _) r⟩
theorem s_continue : DS c X W (.Continue pos) sCont := ⟨_, ps_continue, fun O A σ H s r E h => h O A σ H (Fwd.refl _ _) r⟩
/-- raise X() -/
theorem pmk_own0 {C : Addr} {bmB : List Value} {B newId initId : String} {x : Str} {p : Pos} (F : ExcBaseFacts B newId initId bmB) (q : PySem.W.excIn X.K C bmB newId = true) (gC : X.mg x = some (.ref C))
    (kC : PySem.W.keepIn X.K (.ref C) = true) (r : Raises X (.ref C)) (hg : Gl X x) (hdb : (x == ("__debug__" : Str)) = false := by decide) :
    PMk X (.Call (.Name x p) [] [] pos) (fun σ H Q => Q (.ref C) none H) := by
  intro pins s σ H Q I h
  refine wpAny_Call_Name_kw (ld_glob I hg gC ?_ hdb)
  refine PySem.W.callWith_K0 (K := X.K) I.kIn kC ?_
  show wpAny _ _ (call (.ref C) ([] : List Value)) _ _ _
  obtain ⟨bm, N, nm, qn, bs, hdct, sn, sub, ab, col, dd, k0, k1, k2, k3, k5, mN, hC, hN, hni, T⟩ := exc_obj I.kIn q
  refine wpAny_call_exc_subT F T hC hN hni (fun h' e hm => ?_) (Nat.zero_le _)
  exact mk_of I hm r h (I.hok.gone hm.new)
/-- what is known of an own error's class -/
structure ExcT (K : PySem.W.Frag) (mg : Str → Option Value) (x : Str) (C : Addr) : Prop where
  g : mg x = some (.ref C)
  x : PySem.W.excIn K C [.type "ValueError", .type "Exception", .type "BaseException", .type "object"] "ValueError.__new__" = true
  k : PySem.W.keepIn K (.ref C) = true
  b : PySem.W.subIn K (.ref C) (.type "BaseException") = some true
  t : PySem.W.typeIn K (.ref C) = some (.type "type")
theorem s_raise {x : Str} {p pos2 : Pos} (T : ExcT X.K X.mg x (c.ca x)) (tk : Takes X W) (hc : X.calm = true := by rfl) (hg : Gl X x := by rfl) (hdb : (x == ("__debug__" : Str)) = false := by decide) :
    DS c X W (.Raise (some (.Call (.Name x p) [] [] pos)) none pos2) (sRaise x) := by
  refine ⟨_, ps_raise hc tk (pmk_own0 PySem.F.excBase_ValueError T.x T.g T.k (raises_own T.b T.t) hg hdb), ?_⟩
  intro O A σ H s r E w
  exact w O A σ H (Fwd.refl _ _) r
end
end DL

namespace DL
open PySem PySem.Spec L2
/-! ### owned lists -/
theorem cut_upd {O : List Addr} {H : Hp} {l : Addr} {o : HO} (h : l ∈ O) : cut O (upd H l o) = cut O H := by
  funext a
  by_cases q : a ∈ O
  · rw [cut_in q, cut_in q]
  · rw [cut_out q, cut_out q, upd_ne (fun z => q (by rw [z]; exact h))]
def slb : Bx → Sl
  | .lst ds => .own ds
  | .dic b => .dic b
theorem slb_ow (b : Bx) : (slb b).ow = true := by cases b <;> rfl
theorem slb_of {y : Sl} (h : y.ow = true) : ∃ b, y = slb b := by
  cases y with
  | un => cases h
  | dat _ => cases h
  | own ds => exact ⟨.lst ds, rfl⟩
  | dic b => exact ⟨.dic b, rfl⟩
theorem slb_ok {K : PySem.W.Frag} {O A : List Addr} {H : Hp} {o : Option V} {b : Bx} : SlOk K O A H o (slb b) ↔ ∃ l, o = some (.ref l) ∧ l ∈ A ∧ BxOk K O H l b := by cases b <;> exact Iff.rfl
theorem Rel.box {c : Cf} {O A : List Addr} {σ : St} {H : Hp} {s : Sts} {i : Nat} {b : Bx} (r : Rel c O A σ H s) (h : s[i]? = some (slb b)) : ∃ l, σ[i]? = some (some (.ref l)) ∧ l ∈ A ∧ BxOk c.K O H l b := by
  obtain ⟨l, e, h1, q⟩ := slb_ok.mp (r.slot i _ h)
  exact ⟨l, at_some e, h1, q⟩
/-- what slot i owns at l has changed, all else stands -/
theorem Rel.chgB {c : Cf} {O A : List Addr} {σ : St} {H H' : Hp} {s : Sts} {i : Nat} {l : Addr} {b b' : Bx} (r : Rel c O A σ H s) (hi : s[i]? = some (slb b)) (hσ : σ[i]? = some (some (.ref l))) (hl : l ∈ A)
    (k : ∀ a o, a ≠ l → H a = some o → NT o → H' a = some o) (q : BxOk c.K O H' l b') (hk : (∃ ds, b = .lst ds) → ∃ es, b' = .lst es) (tb : Tbs c.T H') : Rel c O A σ H' (s.set i (slb b')) := by
  have hls : i < s.length := (List.getElem?_eq_some_iff.mp hi).1
  have hlO := r.sub l hl
  have sb : Sub (cut O H) (cut O H') := fun a o e n => by
    obtain ⟨h1, h2⟩ := cut_some e
    rw [cut_out h1]
    exact k a o (fun z => h1 (by rw [z]; exact hlO)) h2 n
  refine ⟨by rw [List.length_set]; exact r.len, r.sub, fun a ha => ?_, fun j y h => ?_, fun j m ds' es' l' h1 h2 o1 o2 h3 h4 => ?_, fun a o e n ha => ?_, r.fr, r.z0, r.o0, fun p hp => ?_, tb⟩
  · by_cases z : a = l
    · rw [z]; exact q.some
    · obtain ⟨o, e, n⟩ := r.alv a ha
      exact ⟨o, k a o z e n, n⟩
  · by_cases hj : j = i
    · subst hj
      rw [List.getElem?_set_self hls] at h
      cases h
      rw [hσ]
      exact slb_ok.mpr ⟨l, rfl, hl, q⟩
    · rw [List.getElem?_set_ne (Ne.symm hj)] at h
      cases hy : y.ow with
      | true =>
        obtain ⟨b2, rfl⟩ := slb_of hy
        obtain ⟨l', e, a1, q'⟩ := r.box h
        rw [e]
        refine slb_ok.mpr ⟨l', rfl, a1, q'.to (fun o n a2 => k l' o (fun z => hj ?_) a2 n) sb⟩
        rw [z] at e
        exact r.inj j i _ _ l h hi (slb_ow _) (slb_ow _) e hσ
      | false =>
        have z := r.slot j y h
        cases y with
        | un => trivial
        | dat d => obtain ⟨v, e, q⟩ := z; exact ⟨v, e, sb.dp q⟩
        | own _ => cases hy
        | dic _ => cases hy
  · have f : ∀ (m : Nat) (fs : Sl), (s.set i (slb b'))[m]? = some fs → fs.ow = true → ∃ fs' : Sl, s[m]? = some fs' ∧ fs'.ow = true := fun m fs h ho => by
      by_cases hm : m = i
      · subst hm; exact ⟨_, hi, slb_ow _⟩
      · rw [List.getElem?_set_ne (Ne.symm hm)] at h; exact ⟨_, h, ho⟩
    obtain ⟨f1, g1, g1'⟩ := f j _ h1 o1
    obtain ⟨f2, g2, g2'⟩ := f m _ h2 o2
    exact r.inj j m f1 f2 l' g1 g2 g1' g2' h3 h4
  · refine k a o (fun z => ?_) (r.kp a o e n ha) n
    rcases r.fr l hl with w | w
    · rw [z] at ha; exact ha w
    · rw [z] at e; exact w o e n
  · obtain ⟨a1, a2, ds', a3⟩ := r.pn p hp
    refine ⟨a1, a2, ?_⟩
    by_cases hm : p.1 = i
    · rw [hm, hi] at a3
      obtain ⟨es, rfl⟩ := hk (by
        cases b with
        | lst ds => exact ⟨ds, rfl⟩
        | dic _ => cases a3)
      exact ⟨es, by rw [hm, List.getElem?_set_self hls]; rfl⟩
    · exact ⟨ds', by rw [List.getElem?_set_ne (Ne.symm hm)]; exact a3⟩
theorem Rel.chg {c : Cf} {O A : List Addr} {σ : St} {H H' : Hp} {s : Sts} {i : Nat} {l : Addr} {ds es : List D} {us : List V} (r : Rel c O A σ H s) (hi : s[i]? = some (.own ds)) (hσ : σ[i]? = some (some (.ref l))) (hl : l ∈ A)
    (k : ∀ a o, a ≠ l → H a = some o → NT o → H' a = some o) (h' : H' l = some (.lst us)) (q : DpAll c.K (cut O H') us es) (tb : Tbs c.T H') : Rel c O A σ H' (s.set i (.own es)) := r.chgB (b := .lst ds) (b' := .lst es) hi hσ hl k ⟨us, h', q⟩ (fun _ => ⟨es, rfl⟩) tb
theorem Tbs.upd {T : List (Addr × Option Str)} {H : Hp} {l : Addr} {o u : HO} (t : Tbs T H) (h : H l = some o) (n : NT o) (hx : ∀ φ, o ≠ .ext φ := by intro φ z; cases z) : Tbs T (upd H l u) := fun P hP => by
  refine (t P hP).keep fun a b e hb => ?_
  rw [upd_ne (fun z => ?_)]
  · exact e
  · rw [z, h] at e
    have e := Option.some.inj e
    rcases hb with ⟨ps, rfl⟩ | ⟨φ, rfl⟩
    · exact n ps e
    · exact hx φ e
theorem Rel.wr {c : Cf} {O A : List Addr} {σ : St} {H : Hp} {s : Sts} {i : Nat} {l : Addr} {ds es : List D} {vs us : List V} (r : Rel c O A σ H s) (hi : s[i]? = some (.own ds)) (hσ : σ[i]? = some (some (.ref l))) (hl : l ∈ A) (hv : H l = some (.lst vs))
    (q : DpAll c.K (cut O H) us es) : Rel c O A σ (upd H l (.lst us)) (s.set i (.own es)) :=
  r.chg hi hσ hl (fun a o n e _ => by rw [upd_ne n]; exact e) upd_same (by rw [cut_upd (r.sub l hl)]; exact q) (r.tb.upd hv nt_lst)
/-- slot i of the state, an owned list -/
def ownAt (s : Sts) (i : Nat) : Option (List D) := match s[i]? with
  | some (.own ds) => some ds
  | _ => none
theorem ownAt_some {s : Sts} {i : Nat} {ds : List D} (h : ownAt s i = some ds) : s[i]? = some (.own ds) := by
  unfold ownAt at h
  cases z : s[i]? with
  | none => rw [z] at h; cases h
  | some x =>
    rw [z] at h
    cases x with
    | un => cases h
    | dat _ => cases h
    | own _ => cases h; rfl
    | dic _ => cases h
/-- with the owned list of slot i -/
def onOwn {α : Type} (i : Nat) (k : List D → M α) : M α := fun s => match ownAt s i with
  | some ds => k ds s
  | none => .bad
/-- x.append(e) -/
def sApp (i : Nat) (f : M D) : G := fun s => match ownAt s i with
  | none => .bad
  | some _ => ex (f s) fun d s1 => match ownAt s1 i with
    | some ds => if ds.length < sizeLine then .nx (s1.set i (.own (ds ++ [d]))) else .bad
    | none => .bad
/-- x.pop(0), x.pop() -/
def mPop0 (i : Nat) : M D := fun s => match ownAt s i with
  | some (d :: ds) => .ok d (s.set i (.own ds))
  | _ => .bad
def mPop (i : Nat) : M D := fun s => match ownAt s i with
  | some ds => match ds.getLast? with
    | some d => .ok d (s.set i (.own ds.dropLast))
    | none => .bad
  | none => .bad
/-- a built-in function of an owned list alone -/
def mOwn1 (i : Nat) (op : List D → Option D) : M D := fun s => match ownAt s i with
  | some ds => lift (op [.list ds]) s
  | none => .bad
/-- a two-place operation, the left | right one an owned list -/
def mOwnL (i : Nat) (g : M D) (op : D → D → Option D) : M D := fun s => match ownAt s i with
  | none => .bad
  | some _ => (g s).bind fun d s1 => match ownAt s1 i with
    | some ds => lift (op (.list ds) d) s1
    | none => .bad
def mOwnR (i : Nat) (g : M D) (op : D → D → Option D) : M D := fun s => (g s).bind fun d s1 => match ownAt s1 i with
  | some ds => lift (op d (.list ds)) s1
  | none => .bad
/-- an owned list (its items apart from what is protected) or data -/
def Dq (K : PySem.W.Frag) (O : List Addr) (H : Hp) (v : V) : D → Prop
  | .list ds => ∃ a xs, v = .ref a ∧ SqL K H a xs ∧ DpAll K (cut O H) xs ds
  | d => Dp K (cut O H) v d
theorem Dq.of {K : PySem.W.Frag} {O : List Addr} {H : Hp} {v : V} {d : D} (h : Dp K (cut O H) v d) : Dq K O H v d := by
  cases d with
  | list ds =>
    obtain ⟨a, xs, e, q, r⟩ := dp_list h
    exact ⟨a, xs, e, (Sub.cut O H).sql q, r⟩
  | none => exact h
  | bool _ => exact h
  | int _ => exact h
  | str _ => exact h
  | tuple _ => exact h
  | dict _ => exact h
/-- the same, the operands owned or data -/
def Oq2 (c : Cf) (r : R2) (op : D → D → Option D) : Prop := ∀ O H x y v w d, (∀ a ∈ O, ∃ o, H a = some o ∧ NT o) → op v w = some d → Dq c.K O H x v → Dq c.K O H y w → ∀ Q : VK, (∀ z H', Grow c H H' → Dp c.K (cut O H') z d → Q z H') → r x y H Q
def OqN (c : Cf) (r : List V → Hp → VK → Prop) (op : List D → Option D) : Prop := ∀ O H x v d, (∀ a ∈ O, ∃ o, H a = some o ∧ NT o) → op [v] = some d → Dq c.K O H x v → ∀ Q : VK, (∀ z H', Grow c H H' → Dp c.K (cut O H') z d → Q z H') → r [x] H Q
theorem Oq2.op {c : Cf} {r : R2} {op : D → D → Option D} (h : Oq2 c r op) : Op2 c r op := fun O H x y v w d al e q1 q2 Q k => h O H x y v w d al e (.of q1) (.of q2) Q k
section
variable {c : Cf} {X : Cx} {W : WX} {a b : Expr} {f : M D} {g : G} {pos : Pos}
theorem rel_own {O A : List Addr} {σ : St} {H : Hp} {s : Sts} {i : Nat} {ds : List D} (r : Rel c O A σ H s) (h : ownAt s i = some ds) : ∃ l vs, σ[i]? = some (some (.ref l)) ∧ l ∈ A ∧ H l = some (.lst vs) ∧ DpAll c.K (cut O H) vs ds := r.own (ownAt_some h)
theorem dpa_snoc {K : PySem.W.Frag} {G : Hp} {ds : List D} {vs : List V} {v : V} {d : D} (h : DpAll K G vs ds) (q : Dp K G v d) : DpAll K G (vs ++ [v]) (ds ++ [d]) := dpa_app h (.cons q .nil)
/-- the reading of x.append(e) -/
theorem sem_app (i : Nat) {te : TE} (hK : c.K = X.K) (se : SemE c W te f) : SemS c W (tDrop (tBM X.K "list" rAppend (tVar i) (tCons te tNil))) (sApp i f) := by
  intro O A σ H s r E w
  unfold sApp at w
  cases z : ownAt s i with
  | none => rw [z] at w; exact w.elim
  | some ds0 =>
    rw [z] at w
    obtain ⟨l, vs, hσ, hl, hv, qv⟩ := rel_own r z
    refine ⟨.ref l, hσ, .inl ⟨rfl, vs, SqL.of hv⟩, ?_⟩
    refine se O A σ H s r _ (Wp.mono (wp_ex r.sub w) ?_)
    intro d s1 H1 _ f1 r1 w1 v q
    cases z1 : ownAt s1 i with
    | none => rw [z1] at w1; exact w1.elim
    | some ds =>
      rw [z1] at w1
      obtain ⟨l', vs', hσ', hl', hv', qv'⟩ := rel_own r1 z1
      rw [hσ] at hσ'
      cases hσ'
      by_cases hz : ds.length < sizeLine
      · have w1 : WpS c W O H1 (if ds.length < sizeLine then .nx (s1.set i (.own (ds ++ [d]))) else .bad) E := w1
        rw [if_pos hz] at w1
        refine ⟨l, vs', v, rfl, rfl, hv', by rw [dpa_len qv']; exact hz, ?_⟩
        refine w1 O A σ _ ?_ (r1.wr (ownAt_some z1) hσ hl hv' (dpa_snoc qv' q))
        show Sub (cut O H1) (cut O (upd H1 l _))
        rw [cut_upd (r.sub l hl)]
        exact Sub.refl _
      · have w1 : WpS c W O H1 (if ds.length < sizeLine then .nx (s1.set i (.own (ds ++ [d]))) else .bad) E := w1
        rw [if_neg hz] at w1
        exact w1.elim
theorem s_app (i : Nat) {x : Str} {px papp pe : Pos} (hK : c.K = X.K) (he : DE c X W b f) (hN : X.N[i]? = some x := by rfl) (hv : Vis X.env.scope x := by first | exact Or.inl rfl | exact Or.inr (Or.inl rfl) | exact Or.inr (Or.inr rfl)) (hd : (x == ("__debug__" : Str)) = false := by decide)
    (hcd : (x == ("__classdict__" : Str)) = false := by decide) (hst : starEach [b] X.env = (false, eval b X.env) :: starEach [] X.env := by rfl)
    (hbase : attributeBase (.Name x px) "append" X.env (eval (.Name x px) X.env) = eval (.Name x px) X.env := by rfl)
    (hfew : ((backTo pe (starEach [b] X.env)).all (fun x => !x.1) && (backToKw pe (keywordEach [] X.env)).all (fun x => x.1.isSome)
      && decide ([b].length + ([] : List Keyword).length + (if ([] : List Keyword).isEmpty then 0 else 1) < 30)) = true := by rfl)
    (hline : (papp.endLine == pe.line) = true := by rfl) (hplain : (backTo pe (starEach [] X.env)).any (·.1) = false := by rfl)
    (hs : swapsWith (.Call (.Attribute (.Name x px) "append" papp) [b] [] pe) none pos.line X.env = pure false := by rfl) :
    DS c X W (.Expr (.Call (.Attribute (.Name x px) "append" papp) [b] [] pe) pos) (sApp i f) := by
  obtain ⟨te, pe', se⟩ := he
  exact ⟨_, ps_expr (pe_bm PySem.F.plainAttrs_list PySem.F.slot_list_append PySem.F.type_list_append mt_append (pe_var hN hv hd hcd) (pa_cons pe' pa_nil hst) hbase hfew hline hst hplain) hs, sem_app i hK se⟩
theorem sem_pop0 (i : Nat) (hK : c.K = X.K) : SemE c W (tBM X.K "list" rPopAt (tVar i) (tCons (tC (.int 0)) tNil)) (mPop0 i) := by
  intro O A σ H s r Q w
  unfold mPop0 at w
  cases z : ownAt s i with
  | none => rw [z] at w; exact w.elim
  | some ds0 =>
    rw [z] at w
    obtain ⟨l, vs, hσ, hl, hv, qv⟩ := rel_own r z
    cases ds0 with
    | nil => exact w.elim
    | cons d ds =>
      cases qv with
      | cons q1 q2 =>
        rename_i v vr
        refine ⟨.ref l, hσ, .inl ⟨rfl, _, SqL.of hv⟩, l, v :: vr, 0, 0, v, rfl, rfl, hv, by decide, by decide, ?_, rfl, ?_⟩
        · simp [seqIndex?]
        · refine w (upd H l (.lst ((v :: vr).eraseIdx 0))) (fun a o n e _ => ?_) (r.wr (ownAt_some z) hσ hl hv q2) v ?_
          · rw [upd_ne (fun z => n (by rw [z]; exact hl))]; exact e
          · rw [cut_upd (r.sub l hl)]; exact q1
theorem d_pop0 (i : Nat) {x : Str} {px papp pe p0 : Pos} {j : Nat} (hK : c.K = X.K) (hN : X.N[i]? = some x := by rfl) (hv : Vis X.env.scope x := by first | exact Or.inl rfl | exact Or.inr (Or.inl rfl) | exact Or.inr (Or.inr rfl)) (hd : (x == ("__debug__" : Str)) = false := by decide)
    (hcd : (x == ("__classdict__" : Str)) = false := by decide) (hst : starEach [.Constant (.int 0) j p0] X.env = (false, eval (.Constant (.int 0) j p0) X.env) :: starEach [] X.env := by rfl)
    (hbase : attributeBase (.Name x px) "pop" X.env (eval (.Name x px) X.env) = eval (.Name x px) X.env := by rfl)
    (hfew : ((backTo pe (starEach [.Constant (.int 0) j p0] X.env)).all (fun x => !x.1) && (backToKw pe (keywordEach [] X.env)).all (fun x => x.1.isSome)
      && decide (([.Constant (.int 0) j p0] : List Expr).length + ([] : List Keyword).length + (if ([] : List Keyword).isEmpty then 0 else 1) < 30)) = true := by rfl)
    (hline : (papp.endLine == pe.line) = true := by rfl) (hplain : (backTo pe (starEach [] X.env)).any (·.1) = false := by rfl) :
    DE c X W (.Call (.Attribute (.Name x px) "pop" papp) [.Constant (.int 0) j p0] [] pe) (mPop0 i) :=
  ⟨_, pe_bm PySem.F.plainAttrs_list PySem.F.slot_list_pop PySem.F.type_list_pop mt_popAt (pe_var hN hv hd hcd) (pa_cons pe_int pa_nil hst) hbase hfew hline hst hplain, sem_pop0 i hK⟩
/-- a built-in function of an owned list -/
theorem sem_own1 (i : Nat) {r : List V → Hp → VK → Prop} {op : List D → Option D} (ho : OqN c r op) : SemE c W (tCB r (tCons (tVar i) tNil)) (mOwn1 i op) := by
  intro O A σ H s re Q w
  unfold mOwn1 at w
  cases z : ownAt s i with
  | none => rw [z] at w; exact w.elim
  | some ds =>
    rw [z] at w
    obtain ⟨l, vs, hσ, hl, hv, qv⟩ := rel_own re z
    cases e : op [.list ds] with
    | none =>
      have w : Wp c W O A σ H (lift (op [.list ds]) s) (PV c O Q) := w
      rw [e] at w; exact w.elim
    | some d =>
      have w : Wp c W O A σ H (lift (op [.list ds]) s) (PV c O Q) := w
      rw [e] at w
      refine ⟨.ref l, hσ, ?_⟩
      exact ho O H (.ref l) (.list ds) d re.alv e ⟨l, vs, rfl, SqL.of hv, qv⟩ Q fun u H' gr qz => w H' (gr.stp A) (re.grow gr) u qz
theorem d_callBo (i : Nat) {id : String} {x y : Str} {p py : Pos} {r : List V → Hp → VK → Prop} {op : List D → Option D} (hc : CallR X (.builtin id) r) (ho : OqN c r op) (hm : X.mg x = none) (hbv : bootBuiltins x = some (.builtin id))
    (hN : X.N[i]? = some y := by rfl) (hv : Vis X.env.scope y := by first | exact Or.inl rfl | exact Or.inr (Or.inl rfl) | exact Or.inr (Or.inr rfl)) (hg : Gl X x := by rfl)
    (hn : x ≠ "__name__" := by decide) (hdb : (x == ("__debug__" : Str)) = false := by decide) (hd : (y == ("__debug__" : Str)) = false := by decide) (hcd : (y == ("__classdict__" : Str)) = false := by decide)
    (he : starEach [.Name y py] X.env = (false, eval (.Name y py) X.env) :: starEach [] X.env := by rfl) (hpl : (backTo pos (starEach [] X.env)).any (·.1) = false := by rfl) : DE c X W (.Call (.Name x p) [.Name y py] [] pos) (mOwn1 i op) :=
  ⟨_, pe_callB hc hg hm hbv (pa_cons (pe_var hN hv hd hcd) pa_nil he) hn hdb he hpl, sem_own1 i ho⟩
theorem d_callTyo (i : Nat) {T : String} {x y : Str} {p py : Pos} {r : List V → Hp → VK → Prop} {op : List D → Option D} (hc : CallR X (.type T) r) (ho : OqN c r op) (hm : X.mg x = none) (hbv : bootBuiltins x = some (.type T))
    (hN : X.N[i]? = some y := by rfl) (hv : Vis X.env.scope y := by first | exact Or.inl rfl | exact Or.inr (Or.inl rfl) | exact Or.inr (Or.inr rfl)) (hg : Gl X x := by rfl)
    (hn : x ≠ "__name__" := by decide) (hdb : (x == ("__debug__" : Str)) = false := by decide) (hd : (y == ("__debug__" : Str)) = false := by decide) (hcd : (y == ("__classdict__" : Str)) = false := by decide)
    (he : starEach [.Name y py] X.env = (false, eval (.Name y py) X.env) :: starEach [] X.env := by rfl) (hpl : (backTo pos (starEach [] X.env)).any (·.1) = false := by rfl) : DE c X W (.Call (.Name x p) [.Name y py] [] pos) (mOwn1 i op) :=
  ⟨_, pe_callTy hc hg hm hbv (pa_cons (pe_var hN hv hd hcd) pa_nil he) hn hdb he hpl, sem_own1 i ho⟩
theorem sem_ownL (i : Nat) {r : R2} {op : D → D → Option D} {tb : TE} (ho : Oq2 c r op) (hb : SemE c W tb f) : SemE c W (tOp r (tVar i) tb) (mOwnL i f op) := by
  intro O A σ H s re Q w
  unfold mOwnL at w
  cases z0 : ownAt s i with
  | none => rw [z0] at w; exact w.elim
  | some ds0 =>
    rw [z0] at w
    obtain ⟨l, vs, hσ, hl, hv, qv⟩ := rel_own re z0
    refine ⟨.ref l, hσ, ?_⟩
    refine hb O A σ H s re _ (Wp.mono (Wp.bind w) ?_)
    intro d s1 H1 _ f1 r1 w1 y qy
    cases z : ownAt s1 i with
    | none => rw [z] at w1; exact w1.elim
    | some ds =>
      rw [z] at w1
      obtain ⟨l', vs', hσ', hl', hv', qv'⟩ := rel_own r1 z
      rw [hσ] at hσ'
      cases hσ'
      have w1 : Wp c W O A σ H1 (lift (op (.list ds) d) s1) (PV c O Q) := w1
      cases e : op (.list ds) d with
      | none => rw [e] at w1; exact w1.elim
      | some d' =>
        rw [e] at w1
        exact ho O H1 (.ref l) y (.list ds) d d' r1.alv e ⟨l, vs', rfl, SqL.of hv', qv'⟩ (.of qy) Q fun u H' gr qz => w1 H' (gr.stp A) (r1.grow gr) u qz
theorem sem_ownR (i : Nat) {r : R2} {op : D → D → Option D} {tb : TE} (ho : Oq2 c r op) (hb : SemE c W tb f) : SemE c W (tOp r tb (tVar i)) (mOwnR i f op) := by
  intro O A σ H s re Q w
  refine hb O A σ H s re _ (Wp.mono (Wp.bind w) ?_)
  intro d s1 H1 _ f1 r1 w1 y qy
  cases z : ownAt s1 i with
  | none => rw [z] at w1; exact w1.elim
  | some ds =>
    rw [z] at w1
    obtain ⟨l, vs', hσ', hl', hv', qv'⟩ := rel_own r1 z
    have w1 : Wp c W O A σ H1 (lift (op d (.list ds)) s1) (PV c O Q) := w1
    cases e : op d (.list ds) with
    | none => rw [e] at w1; exact w1.elim
    | some d' =>
      rw [e] at w1
      refine ⟨.ref l, hσ', ?_⟩
      exact ho O H1 y (.ref l) d (.list ds) d' r1.alv e (.of qy) ⟨l, vs', rfl, SqL.of hv', qv'⟩ Q fun u H' gr qz => w1 H' (gr.stp A) (r1.grow gr) u qz
section
variable {x : Str} {px : Pos} {i : Nat}
/-- a comparison whose left | right side is an owned list -/
theorem d_cmpoL (i : Nat) {o : CmpOp} {r : R2} {op : D → D → Option D} (hp : OpR X (compareOp o) r) (ho : Oq2 c r op) (hb : DE c X W b f) (hN : X.N[i]? = some x := by rfl) (hv : Vis X.env.scope x := by first | exact Or.inl rfl | exact Or.inr (Or.inl rfl) | exact Or.inr (Or.inr rfl))
    (hm : behindInMarks o b = false := by first | exact nobehind _ (by decide) (by decide) | rfl) (hd : (x == ("__debug__" : Str)) = false := by decide) (hcd : (x == ("__classdict__" : Str)) = false := by decide) :
    DE c X W (.Compare (.Name x px) [o] [b] pos) (mOwnL i f op) := by
  obtain ⟨tb, pb, sb⟩ := hb
  exact ⟨_, pe_cmpR hp (pe_var hN hv hd hcd) pb hm, sem_ownL i ho sb⟩
theorem d_cmpoR (i : Nat) {o : CmpOp} {r : R2} {op : D → D → Option D} (hp : OpR X (compareOp o) r) (ho : Oq2 c r op) (hb : DE c X W b f) (hN : X.N[i]? = some x := by rfl) (hv : Vis X.env.scope x := by first | exact Or.inl rfl | exact Or.inr (Or.inl rfl) | exact Or.inr (Or.inr rfl))
    (hm : behindInMarks o (.Name x px) = false := by first | exact nobehind _ (by decide) (by decide) | rfl) (hd : (x == ("__debug__" : Str)) = false := by decide) (hcd : (x == ("__classdict__" : Str)) = false := by decide) :
    DE c X W (.Compare b [o] [.Name x px] pos) (mOwnR i f op) := by
  obtain ⟨tb, pb, sb⟩ := hb
  exact ⟨_, pe_cmpR hp pb (pe_var hN hv hd hcd) hm, sem_ownR i ho sb⟩
theorem t_cmpoL (i : Nat) {o : CmpOp} {r : R2} {op : D → D → Option D} (hp : OpR X (compareOp o) r) (ho : Oq2 c r op) (hb : DE c X W b f) (hN : X.N[i]? = some x := by rfl) (hv : Vis X.env.scope x := by first | exact Or.inl rfl | exact Or.inr (Or.inl rfl) | exact Or.inr (Or.inr rfl))
    (hm : behindInMarks o b = false := by first | exact nobehind _ (by decide) (by decide) | rfl) (hd : (x == ("__debug__" : Str)) = false := by decide) (hcd : (x == ("__classdict__" : Str)) = false := by decide) :
    DT c X W (.Compare (.Name x px) [o] [b] pos) (mT (mOwnL i f op)) := by
  obtain ⟨tb, pb, sb⟩ := hb
  exact ⟨_, pt_cmpR hp (pe_var hN hv hd hcd) pb hm, sem_test (sem_ownL i ho sb)⟩
theorem t_cmpoR (i : Nat) {o : CmpOp} {r : R2} {op : D → D → Option D} (hp : OpR X (compareOp o) r) (ho : Oq2 c r op) (hb : DE c X W b f) (hN : X.N[i]? = some x := by rfl) (hv : Vis X.env.scope x := by first | exact Or.inl rfl | exact Or.inr (Or.inl rfl) | exact Or.inr (Or.inr rfl))
    (hm : behindInMarks o (.Name x px) = false := by first | exact nobehind _ (by decide) (by decide) | rfl) (hd : (x == ("__debug__" : Str)) = false := by decide) (hcd : (x == ("__classdict__" : Str)) = false := by decide) :
    DT c X W (.Compare b [o] [.Name x px] pos) (mT (mOwnR i f op)) := by
  obtain ⟨tb, pb, sb⟩ := hb
  exact ⟨_, pt_cmpR hp pb (pe_var hN hv hd hcd) hm, sem_test (sem_ownR i ho sb)⟩
/-- an owned list's item -/
theorem d_ixo (i : Nat) {r : R2} {op : D → D → Option D} (hp : IxR X r) (ho : Oq2 c r op) (hb : DE c X W b f) (hN : X.N[i]? = some x := by rfl) (hv : Vis X.env.scope x := by first | exact Or.inl rfl | exact Or.inr (Or.inl rfl) | exact Or.inr (Or.inr rfl))
    (hs : PlainIx b := by exact fun _ _ => rfl) (hd : (x == ("__debug__" : Str)) = false := by decide) (hcd : (x == ("__classdict__" : Str)) = false := by decide) :
    DE c X W (.Subscript (.Name x px) b pos) (mOwnL i f op) := by
  obtain ⟨tb, pb, sb⟩ := hb
  exact ⟨_, pe_ix hp (pe_var hN hv hd hcd) pb hs, sem_ownL i ho sb⟩
end
/-- data's item -/
theorem d_ix {h : M D} {r : R2} {op : D → D → Option D} (hp : IxR X r) (ho : Oq2 c r op) (ha : DE c X W a h) (hb : DE c X W b f) (hs : PlainIx b := by exact fun _ _ => rfl) : DE c X W (.Subscript a b pos) (mMap2 h f op) := by
  obtain ⟨ta, pa, sa⟩ := ha
  obtain ⟨tb, pb, sb⟩ := hb
  exact ⟨_, pe_ix hp pa pb hs, sem_op ho.op sa sb⟩

/-! ### a new list of one's own -/
/-- the reading ends in a new list of these items -/
def SemF (c : Cf) (W : WX) (te : TE) (f : M (List D)) : Prop := ∀ O A σ H s, Rel c O A σ H s → ∀ Q : VK, Wp c W O A σ H (f s) (fun ds _ H' => ∀ p vs, H' p = none → DpAll c.K (cut O H') vs ds → Q (.ref p) (upd H' p (.lst vs))) → te σ H Q
def DF (c : Cf) (X : Cx) (W : WX) (e : Expr) (f : M (List D)) : Prop := ∃ te, PE X e te ∧ SemF c W te f
def sized (ds : List D) : Option (List D) := if ds.length ≤ sizeLine then some ds else none
theorem f_lst {es : List Expr} {gs : M (List D)} (h : DA c X W es gs) : DF c X W (.List es pos) (mMap gs sized) := by
  obtain ⟨ta, pa, sa⟩ := h
  refine ⟨_, pe_lst pa, ?_⟩
  intro O A σ H s r Q h
  refine sa O A σ H s r _ (Wp.mono (Wp.bind h) ?_)
  intro ds s1 H1 _ f1 r1 h1 vs qs
  unfold sized at h1
  by_cases hl : ds.length ≤ sizeLine
  · rw [if_pos hl] at h1
    exact ⟨by rw [dpa_len qs]; exact hl, fun p hp => h1 H1 (Stp.refl _ _) r1 p vs hp qs⟩
  · rw [if_neg hl] at h1; exact h1.elim
def mL (f : M (List D)) : M D := fun s => (f s).bind fun ds s1 => .ok (.list ds) s1
/-- as data -/
theorem d_of {fs : M (List D)} (h : DF c X W a fs) : DE c X W a (mL fs) := by
  obtain ⟨te, pe, se⟩ := h
  refine ⟨te, pe, ?_⟩
  intro O A σ H s r Q h
  refine se O A σ H s r _ (Wp.mono (Wp.bind h) ?_)
  intro ds s1 H1 _ f1 r1 h1 p vs hp qs
  exact h1 _ ((Grow.new (c := c) hp).stp A) (r1.grow (Grow.new hp)) _ (dp_newL hp (r1.fresh hp) qs)
/-- a name that is no owned list becomes one -/
def setO (i : Nat) (ds : List D) (s : Sts) : Option Sts := match s[i]? with
  | some .un => some (s.set i (.own ds))
  | some (.dat _) => some (s.set i (.own ds))
  | _ => none
def sOwn (i : Nat) (f : M (List D)) : G := fun s => ex (f s) fun ds s1 => optG (setO i ds s1)
theorem Rel.setB {O A : List Addr} {σ : St} {H : Hp} {s : Sts} {i : Nat} {b : Bx} {p : Addr} {o : HO} {x : Sl} (r : Rel c O A σ H s) (hx : s[i]? = some x) (hno : x.ow = false) (hp : H p = none) (hn : NT o) (q : BxOk c.K (p :: O) (upd H p o) p b) :
    Rel c (p :: O) (p :: A) (σ.set i (some (.ref p))) (upd H p o) (s.set i (slb b)) ∧ Fwd O H (p :: O) (upd H p o) := by
  have hl : i < s.length := (List.getElem?_eq_some_iff.mp hx).1
  have hσ : i < σ.length := by rw [r.len]; exact hl
  have pO := r.fresh hp
  have sb : Sub (cut O H) (cut (p :: O) (upd H p o)) := fun a o e n => by
    obtain ⟨h1, h2⟩ := cut_some e
    have hne := ne_of_none h2 hp
    rw [cut_out (by simp [hne, h1]), upd_ne hne]
    exact h2
  have ne : ∀ j y, (s.set i (slb b))[j]? = some y → (j = i ∧ y = slb b) ∨ (j ≠ i ∧ s[j]? = some y) := fun j y h => by
    by_cases hj : j = i
    · subst hj
      rw [List.getElem?_set_self hl] at h
      exact .inl ⟨rfl, (Option.some.inj h).symm⟩
    · rw [List.getElem?_set_ne (Ne.symm hj)] at h
      exact .inr ⟨hj, h⟩
  have old : ∀ (j : Nat) (y : Sl) (l : Addr), s[j]? = some y → y.ow = true → σ[j]? = some (some (.ref l)) → l ≠ p := fun j y l h1 ho h2 z => by
    obtain ⟨b2, rfl⟩ := slb_of ho
    obtain ⟨l', e1, _, e2⟩ := r.box h1
    rw [h2] at e1
    cases e1
    obtain ⟨o', e3, _⟩ := e2.some
    rw [z, hp] at e3
    cases e3
  refine ⟨⟨by rw [List.length_set, List.length_set]; exact r.len, fun a ha => ?_, fun a ha => ?_, fun j y h => ?_, fun j k es fs l h1 h2 o1 o2 h3 h4 => ?_, fun a o e n ha => ?_, fun a ha => ?_, r.z0, fun a ha => List.mem_cons_of_mem _ (r.o0 a ha), fun q hq => ?_, fun P hP => ?_⟩, sb⟩
  · rcases List.mem_cons.mp ha with z | z
    · rw [z]; exact List.mem_cons_self
    · exact List.mem_cons_of_mem _ (r.sub a z)
  · rcases List.mem_cons.mp ha with z | z
    · rw [z]; exact ⟨_, upd_same, hn⟩
    · obtain ⟨o, e, n⟩ := r.alv a z
      exact ⟨o, by rw [upd_ne (ne_of_none e hp)]; exact e, n⟩
  · rcases ne j y h with ⟨rfl, rfl⟩ | ⟨hj, h⟩
    · rw [List.getElem?_set_self hσ]
      exact slb_ok.mpr ⟨p, rfl, List.mem_cons_self, q⟩
    · rw [List.getElem?_set_ne (Ne.symm hj)]
      cases hy : y.ow with
      | true =>
        obtain ⟨b2, rfl⟩ := slb_of hy
        obtain ⟨l', e, a1, q'⟩ := r.box h
        rw [e]
        exact slb_ok.mpr ⟨l', rfl, List.mem_cons_of_mem _ a1, q'.to (fun o n a2 => by rw [upd_ne (ne_of_none a2 hp)]; exact a2) sb⟩
      | false =>
        have z := r.slot j y h
        cases y with
        | un => trivial
        | dat d => obtain ⟨v, e, q⟩ := z; exact ⟨v, e, sb.dp q⟩
        | own _ => cases hy
        | dic _ => cases hy
  · rcases ne j _ h1 with ⟨z1, _⟩ | ⟨hj, h1⟩
    · rcases ne k _ h2 with ⟨z2, _⟩ | ⟨hk, h2⟩
      · rw [z1, z2]
      · rw [z1, List.getElem?_set_self hσ] at h3
        cases h3
        rw [List.getElem?_set_ne (Ne.symm hk)] at h4
        exact absurd rfl (old k fs _ h2 o2 h4)
    · rw [List.getElem?_set_ne (Ne.symm hj)] at h3
      rcases ne k _ h2 with ⟨z2, _⟩ | ⟨hk, h2⟩
      · rw [z2, List.getElem?_set_self hσ] at h4
        cases h4
        exact absurd rfl (old j es _ h1 o1 h3)
      · rw [List.getElem?_set_ne (Ne.symm hk)] at h4
        exact r.inj j k es fs l h1 h2 o1 o2 h3 h4
  · have h := r.kp a o e n ha
    rw [upd_ne (ne_of_none h hp)]
    exact h
  · rcases List.mem_cons.mp ha with z | z
    · rw [z]
      by_cases hz : p ∈ c.A0
      · exact .inl hz
      · refine .inr fun o h0 hn => ?_
        have := r.kp p o h0 hn hz
        rw [hp] at this; cases this
    · exact r.fr a z
  · obtain ⟨h1, h2, es, h3⟩ := r.pn q hq
    have hne : q.1 ≠ i := fun z => by
      rw [z, hx] at h3
      cases h3
      cases hno
    refine ⟨h1, ?_, es, ?_⟩
    · rw [List.getElem?_set_ne (Ne.symm hne)]; exact h2
    · rw [List.getElem?_set_ne (Ne.symm hne)]; exact h3
  · exact (r.tb P hP).keep fun a b e _ => by rw [upd_ne (ne_of_none e hp)]; exact e
theorem Rel.setO {O A : List Addr} {σ : St} {H : Hp} {s s' : Sts} {i : Nat} {ds : List D} {p : Addr} {vs : List V} (r : Rel c O A σ H s) (e : setO i ds s = some s') (hp : H p = none) (q : DpAll c.K (cut O H) vs ds) :
    Rel c (p :: O) (p :: A) (σ.set i (some (.ref p))) (upd H p (.lst vs)) s' ∧ Fwd O H (p :: O) (upd H p (.lst vs)) := by
  have hi : ∃ x, s[i]? = some x ∧ x.ow = false ∧ s' = s.set i (.own ds) := by
    unfold DL.setO at e
    cases z : s[i]? with
    | none => rw [z] at e; cases e
    | some x =>
      rw [z] at e
      cases x with
      | un => exact ⟨_, rfl, rfl, (Option.some.inj e).symm⟩
      | dat _ => exact ⟨_, rfl, rfl, (Option.some.inj e).symm⟩
      | own _ => cases e
      | dic _ => cases e
  obtain ⟨x, hx, hn, rfl⟩ := hi
  refine r.setB (b := .lst ds) hx hn hp nt_lst ⟨vs, upd_same, Sub.dpa (fun a o e n => ?_) q⟩
  obtain ⟨h1, h2⟩ := cut_some e
  have hne := ne_of_none h2 hp
  rw [cut_out (by simp [hne, h1]), upd_ne hne]
  exact h2
end
end DL

namespace DL
open PySem PySem.Spec L2
section
variable {c : Cf} {X : Cx} {W : WX} {a b : Expr} {f : M D} {fs : M (List D)} {g : G} {pos : Pos}
theorem sem_own (i : Nat) {te : TE} (se : SemF c W te fs) : SemS c W (tAsg te (gName i)) (sOwn i fs) := by
  intro O A σ H s r E w
  refine se O A σ H s r _ (Wp.mono (wp_ex r.sub w) ?_)
  intro ds s1 H1 _ f1 r1 w1 p vs hp q
  cases z : setO i ds s1 with
  | none => rw [z] at w1; exact w1.elim
  | some s2 =>
    rw [z] at w1
    obtain ⟨r2, fw⟩ := r1.setO z hp q
    exact w1 _ _ _ _ fw r2
/-- name = a new list that will be changed -/
theorem s_own (i : Nat) {x : Str} {px : Pos} (hN : X.N.Nodup) (he : DF c X W a fs) (hi : X.N[i]? = some x := by rfl) (hx : Loc X.env.scope x := by first | exact .inl rfl | exact .inr rfl) (hs : swapsWith a (some (.Name x px)) pos.line X.env = pure false := by rfl)
    (hf : X.fn x = true ∨ X.env.scope.names.lookup x = some .local := by first | exact .inl rfl | exact .inr rfl) : DS c X W (.Assign [.Name x px] a pos) (sOwn i fs) := by
  obtain ⟨te, pe, se⟩ := he
  exact ⟨_, ps_set hN hi hx pe hs hf, sem_own i se⟩
/-- name = e, one plain name -/
theorem sem_set (i : Nat) {te : TE} (se : SemE c W te f) : SemS c W (tAsg te (gName i)) (sAsg f (tName i)) := by
  intro O A σ H s r E w
  refine se O A σ H s r _ (Wp.mono (wp_ex r.sub w) ?_)
  intro d s1 H1 _ f1 r1 w1 v q
  cases z : tName i d s1 with
  | none => rw [z] at w1; exact w1.elim
  | some s2 =>
    rw [z] at w1
    exact w1 O A _ H1 (Fwd.refl _ _) (r1.setD z q)
theorem s_set (i : Nat) {x : Str} {px : Pos} (hN : X.N.Nodup) (he : DE c X W a f) (hi : X.N[i]? = some x := by rfl) (hx : Loc X.env.scope x := by first | exact .inl rfl | exact .inr rfl) (hs : swapsWith a (some (.Name x px)) pos.line X.env = pure false := by rfl)
    (hf : X.fn x = true ∨ X.env.scope.names.lookup x = some .local := by first | exact .inl rfl | exact .inr rfl) : DS c X W (.Assign [.Name x px] a pos) (sAsg f (tName i)) := by
  obtain ⟨te, pe, se⟩ := he
  exact ⟨_, ps_set hN hi hx pe hs hf, sem_set i se⟩
/-- name op= e -/
def sAug (i : Nat) (f : M D) (op : D → D → Option D) : G := fun s => match s[i]? with
  | some (.dat v) => ex (f s) fun d s1 => match op v d with
    | some z => optG (setD i z s1)
    | none => .bad
  | _ => .bad
theorem s_aug (i : Nat) {x : Str} {px : Pos} {o : Operator} {r : R2} {op : D → D → Option D} (hN : X.N.Nodup) (hp : OpR X (inplaceOp o) r) (ho : Op2 c r op) (he : DE c X W a f) (hi : X.N[i]? = some x := by rfl) (hx : Loc X.env.scope x := by first | exact .inl rfl | exact .inr rfl)
    (hf : X.fn x = true ∨ X.env.scope.names.lookup x = some .local := by first | exact .inl rfl | exact .inr rfl) : DS c X W (.AugAssign (.Name x px) o a pos) (sAug i f op) := by
  obtain ⟨te, pe, se⟩ := he
  refine ⟨_, ps_aug hN hi hx pe hp hf, ?_⟩
  intro O A σ H s re E w
  unfold sAug at w
  cases z0 : s[i]? with
  | none => rw [z0] at w; exact w.elim
  | some y =>
    rw [z0] at w
    cases y with
    | un => exact w.elim
    | own _ => exact w.elim
    | dic _ => exact w.elim
    | dat v =>
      obtain ⟨vv, hσ, qv⟩ := re.dat z0
      refine ⟨vv, hσ, se O A σ H s re _ (Wp.mono (wp_ex re.sub w) ?_)⟩
      intro d s1 H1 _ f1 r1 w1 u qu
      cases e : op v d with
      | none =>
        have w1 : WpS c W O H1 (match op v d with | some z => optG (setD i z s1) | none => .bad) E := w1
        rw [e] at w1; exact w1.elim
      | some z =>
        have w1 : WpS c W O H1 (match op v d with | some z => optG (setD i z s1) | none => .bad) E := w1
        rw [e] at w1
        refine ho O H1 vv u v d z r1.alv e (Sub.dp (f1.fwd re.sub) qv) qu _ fun zv H' gr qz => ?_
        cases z2 : setD i z s1 with
        | none =>
          have w1 : WpS c W O H1 (optG (setD i z s1)) E := w1
          rw [z2] at w1; exact w1.elim
        | some s2 =>
          have w1 : WpS c W O H1 (optG (setD i z s1)) E := w1
          rw [z2] at w1
          exact w1 O A _ H' (gr.fwd O) ((r1.grow gr).setD z2 qz)
/-- what is owned, as data -/
def datB : Bx → Option D
  | .lst ds => some (.list ds)
  | .dic (.k kvs) => some (.dict kvs)
  | .dic (.t _) => none
/-- what a slot owns and is not changed any more: data from here on -/
def frz (i : Nat) (s : Sts) : Sts := match s[i]? with
  | some (.own ds) => s.set i (.dat (.list ds))
  | some (.dic (.k kvs)) => s.set i (.dat (.dict kvs))
  | _ => s
theorem Rel.frzB {O A : List Addr} {σ : St} {H : Hp} {s : Sts} (i : Nat) (hi : c.np ≤ i) {b : Bx} {d : D} (r : Rel c O A σ H s) (z : s[i]? = some (slb b)) (hd : datB b = some d) : ∃ O' A', Rel c O' A' σ H (s.set i (.dat d)) ∧ Fwd O H O' H := by
  obtain ⟨l, hσ, hl, q⟩ := r.box z
  have hls : i < s.length := (List.getElem?_eq_some_iff.mp z).1
  have mem : ∀ (B : List Addr) a, a ∈ B.filter (fun y => decide (y ≠ l)) ↔ a ∈ B ∧ a ≠ l := fun B a => by simp [List.mem_filter]
  have sb : Sub (cut O H) (cut (O.filter fun y => decide (y ≠ l)) H) := fun a o e n => by
    obtain ⟨h1, h2⟩ := cut_some e
    rw [cut_out (fun w => h1 ((mem O a).mp w).1)]
    exact h2
  have lp : ∀ p ∈ c.pin, p.2 ≠ l := fun p hp w => by
    obtain ⟨h1, h2, es, h3⟩ := r.pn p hp
    rw [w] at h2
    have := r.inj p.1 i _ _ l h3 z rfl (slb_ow b) h2 hσ
    omega
  have lA : l ∉ c.A0 := fun w => by
    obtain ⟨p, hp, e⟩ := List.mem_map.mp w
    exact lp p hp e
  have hcut : cut (O.filter fun y => decide (y ≠ l)) H l = H l := cut_out fun w => ((mem O l).mp w).2 rfl
  refine ⟨_, A.filter (fun y => decide (y ≠ l)), ⟨by rw [List.length_set]; exact r.len, fun a ha => ?_, fun a ha => r.alv a ((mem O a).mp ha).1, fun j y h => ?_, fun j k es fs' l' h1 h2 o1 o2 h3 h4 => ?_, r.kp, fun a ha => r.fr a ((mem A a).mp ha).1, r.z0, fun a ha => ?_, fun p hp => ?_, r.tb⟩, sb⟩
  · obtain ⟨h1, h2⟩ := (mem A a).mp ha
    exact (mem O a).mpr ⟨r.sub a h1, h2⟩
  · by_cases hj : j = i
    · subst hj
      rw [List.getElem?_set_self hls] at h
      cases h
      rw [hσ]
      refine ⟨.ref l, rfl, ?_⟩
      cases b with
      | lst ds =>
        cases hd
        obtain ⟨vs, hv, q⟩ := q
        exact .lst (.inl (.inl (by rw [hcut]; exact hv))) (sb.dpa q)
      | dic b => cases b with
        | k kvs =>
          cases hd
          obtain ⟨us, hv, q⟩ := q
          exact .dct (.inl (by rw [hcut]; exact hv)) (sb.dpk q)
        | t kvs => cases hd
    · rw [List.getElem?_set_ne (Ne.symm hj)] at h
      cases hy : y.ow with
      | true =>
        obtain ⟨b2, rfl⟩ := slb_of hy
        obtain ⟨l', e, a1, q'⟩ := r.box h
        rw [e]
        refine slb_ok.mpr ⟨l', rfl, (mem A l').mpr ⟨a1, fun w => hj ?_⟩, q'.to (fun o n a2 => a2) sb⟩
        rw [w] at e
        exact r.inj j i _ _ l h z (slb_ow _) (slb_ow _) e hσ
      | false =>
        have y0 := r.slot j y h
        cases y with
        | un => trivial
        | dat d => obtain ⟨v, e, q⟩ := y0; exact ⟨v, e, sb.dp q⟩
        | own _ => cases hy
        | dic _ => cases hy
  · have f : ∀ (m : Nat) (gs : Sl), (s.set i (.dat d))[m]? = some gs → gs.ow = true → s[m]? = some gs := fun m gs h ho => by
      by_cases hm : m = i
      · subst hm
        rw [List.getElem?_set_self hls] at h
        cases h
        cases ho
      · rw [List.getElem?_set_ne (Ne.symm hm)] at h; exact h
    exact r.inj j k es fs' l' (f j _ h1 o1) (f k _ h2 o2) o1 o2 h3 h4
  · refine (mem O a).mpr ⟨r.o0 a ha, fun w => ?_⟩
    rcases r.fr l hl with w1 | w1
    · exact lA w1
    · obtain ⟨o, e, n⟩ := r.z0 a ha
      rw [w] at e
      exact w1 o e n
  · obtain ⟨h1, h2, es, h3⟩ := r.pn p hp
    refine ⟨h1, h2, es, ?_⟩
    rw [List.getElem?_set_ne (by omega)]
    exact h3
theorem Rel.frz {O A : List Addr} {σ : St} {H : Hp} {s : Sts} (i : Nat) (hi : c.np ≤ i) (r : Rel c O A σ H s) : ∃ O' A', Rel c O' A' σ H (frz i s) ∧ Fwd O H O' H := by
  unfold DL.frz
  cases z : s[i]? with
  | none => exact ⟨O, A, r, Fwd.refl _ _⟩
  | some x =>
    cases x with
    | un => exact ⟨O, A, r, Fwd.refl _ _⟩
    | dat _ => exact ⟨O, A, r, Fwd.refl _ _⟩
    | own ds => exact r.frzB i hi (b := .lst ds) z rfl
    | dic b => cases b with
      | k kvs => exact r.frzB i hi (b := .dic (.k kvs)) z rfl
      | t kvs => exact ⟨O, A, r, Fwd.refl _ _⟩
def sFrz (i : Nat) (g : G) : G := fun s => g (frz i s)
theorem sem_frz (i : Nat) {tu : TS} (hi : c.np ≤ i) (h : SemS c W tu g) : SemS c W tu (sFrz i g) := by
  intro O A σ H s r E w
  obtain ⟨O', A', r', fw⟩ := r.frz i hi
  exact h O' A' σ H _ r' E (WpS.fwd fw w)
theorem s_frz (i : Nat) {st : Stmt} (h : DS c X W st g) (hi : c.np ≤ i := by exact of_decide_eq_true rfl) : DS c X W st (sFrz i g) := by
  obtain ⟨t, p, s⟩ := h
  exact ⟨t, p, sem_frz i hi s⟩
theorem ss_frz (i : Nat) {sts : List Stmt} (h : DSs c X W sts g) (hi : c.np ≤ i := by exact of_decide_eq_true rfl) : DSs c X W sts (sFrz i g) := by
  obtain ⟨t, p, s⟩ := h
  exact ⟨t, p, sem_frz i hi s⟩

/-! ### what is walked -/
structure WalkOk (c : Cf) (J : It) (O : List Addr) (H : Hp) (ds : List D) : Prop where
  go : ∀ (i : Nat) O' H', i < ds.length → Fwd O H O' H' → J.go i H' ∧ ∀ x H'', J.yld i H' x H'' → Grow c H' H'' ∧ ∃ d, ds[i]? = some d ∧ Dp c.K (cut O' H'') x d
  stop : ∀ (i : Nat) O' H', ds.length ≤ i → Fwd O H O' H' → J.stop i H'
def SemI (c : Cf) (W : WX) (wi : TI) (f : M (List D)) : Prop := ∀ O A σ H s, Rel c O A σ H s → ∀ R : It → Hp → Prop, Wp c W O A σ H (f s) (fun ds _ H' => ∀ J, WalkOk c J O H' ds → R J H') → wi σ H R
def DI (c : Cf) (X : Cx) (W : WX) (tg iter : Expr) (f : M (List D)) : Prop := ∃ wi, PI X tg iter wi ∧ SemI c W wi f
def items : D → Option (List D)
  | .list xs => some xs
  | .tuple xs => some xs
  | _ => none
/-- a list or a tuple -/
def iSeq (K : PySem.W.Frag) (tl : TE) : TI := fun σ H R => tl σ H fun x H1 => ∃ a, x = .ref a ∧ (((∃ xs, SqL K H1 a xs) ∧ R (Itl K a) H1) ∨ ((∃ xs, SqT K H1 a xs) ∧ R (Itt K a) H1))
theorem pi_seq {tg l : Expr} {tl : TE} (hl : PE X l tl) : PI X tg l (iSeq X.K tl) := by
  refine ⟨fun pins s σ H R I h => ?_⟩
  refine thn (hl.run pins s σ H _ I h) fun v s1 ⟨x, H1, I1, r1, q1⟩ => ?_
  obtain ⟨p, e, q⟩ := q1
  subst e
  cases r1
  rcases q with ⟨⟨xs, hq⟩, q⟩ | ⟨⟨xs, hq⟩, q⟩
  · obtain ⟨its, rv, pl, hz⟩ := I1.list hq
    refine wpAny_pyIter_list pl.isList ?_
    refine ⟨s1.heap.objs.size, [s1.heap.objs.size], _, _, H1, rfl, I1.kept (t' := s1.toks) fun b o e => Heap.get?_push_of_some _ e, turn_list p _, ⟨_, Heap.get?_push_size _ rfl, rfl, rfl⟩, fun b hb => ?_, q⟩
    have e : b = s1.heap.objs.size := by simpa using hb
    subst e
    exact I1.fpOk (Nat.le_refl _) (I1.hok.fresh (Nat.le_refl _))
  · obtain ⟨its, rv, pl, hz⟩ := I1.tuple hq
    refine wpAny_pyIter_tuple (show s1.heap.IsTuple p its.toArray from pl) ?_
    refine ⟨s1.heap.objs.size, [s1.heap.objs.size], _, _, H1, rfl, I1.kept (t' := s1.toks) fun b o e => Heap.get?_push_of_some _ e, turn_tuple p _, ⟨_, Heap.get?_push_size _ rfl, rfl, rfl⟩, fun b hb => ?_, q⟩
    have e : b = s1.heap.objs.size := by simpa using hb
    subst e
    exact I1.fpOk (Nat.le_refl _) (I1.hok.fresh (Nat.le_refl _))
theorem walk_l {K : PySem.W.Frag} {O : List Addr} {H : Hp} {p : Addr} {xs : List V} {ds : List D} (hK : c.K = K) (h : SqL K (cut O H) p xs) (q : DpAll K (cut O H) xs ds) : WalkOk c (Itl K p) O H ds := by
  have hl := dpa_len q
  subst hK
  refine ⟨fun i O' H' hi fw => ?_, fun i O' H' hi fw => ?_⟩
  · have h' : SqL c.K H' p xs := (Sub.cut O' H').sql (Sub.sql fw h)
    obtain ⟨x, hx⟩ : ∃ x, xs[i]? = some x := ⟨xs[i]'(by omega), List.getElem?_eq_getElem _⟩
    refine ⟨⟨xs, x, h', hx⟩, fun y H'' e => ?_⟩
    obtain ⟨e1, e2⟩ := e
    subst e1
    have e3 := e2 xs h'
    obtain ⟨d, e4, q4⟩ := dpa_getv (Sub.dpa fw q) e3
    exact ⟨Grow.refl _ _, d, e4, q4⟩
  · exact ⟨xs, (Sub.cut O' H').sql (Sub.sql fw h), by omega⟩
theorem walk_t {K : PySem.W.Frag} {O : List Addr} {H : Hp} {p : Addr} {xs : List V} {ds : List D} (hK : c.K = K) (h : SqT K (cut O H) p xs) (q : DpAll K (cut O H) xs ds) : WalkOk c (Itt K p) O H ds := by
  have hl := dpa_len q
  subst hK
  refine ⟨fun i O' H' hi fw => ?_, fun i O' H' hi fw => ?_⟩
  · have h' : SqT c.K H' p xs := (Sub.cut O' H').sqt (Sub.sqt fw h)
    obtain ⟨x, hx⟩ : ∃ x, xs[i]? = some x := ⟨xs[i]'(by omega), List.getElem?_eq_getElem _⟩
    refine ⟨⟨xs, x, h', hx⟩, fun y H'' e => ?_⟩
    obtain ⟨e1, e2⟩ := e
    subst e1
    have e3 := e2 xs h'
    obtain ⟨d, e4, q4⟩ := dpa_getv (Sub.dpa fw q) e3
    exact ⟨Grow.refl _ _, d, e4, q4⟩
  · exact ⟨xs, (Sub.cut O' H').sqt (Sub.sqt fw h), by omega⟩
theorem di_seq {tg : Expr} (he : DE c X W a f) (hK : c.K = X.K := by rfl) : DI c X W tg a (mMap f items) := by
  obtain ⟨te, pe, se⟩ := he
  refine ⟨_, pi_seq pe, ?_⟩
  intro O A σ H s r R w
  refine se O A σ H s r _ (Wp.mono (Wp.bind w) ?_)
  intro d s1 H1 _ f1 r1 w1 v q
  cases d with
  | list ds =>
    obtain ⟨p, xs, rfl, hq, qa⟩ := dp_list q
    exact ⟨p, rfl, .inl ⟨⟨xs, hK ▸ (Sub.cut O H1).sql hq⟩, w1 H1 (Stp.refl _ _) r1 _ (walk_l hK (hK ▸ hq) (hK ▸ qa))⟩⟩
  | tuple ds =>
    obtain ⟨p, xs, rfl, hq, qa⟩ := dp_tup q
    exact ⟨p, rfl, .inr ⟨⟨xs, hK ▸ (Sub.cut O H1).sqt hq⟩, w1 H1 (Stp.refl _ _) r1 _ (walk_t hK (hK ▸ hq) (hK ▸ qa))⟩⟩
  | none => exact w1.elim
  | bool _ => exact w1.elim
  | int _ => exact w1.elim
  | str _ => exact w1.elim
  | dict _ => exact w1.elim
def chars : D → Option (List D)
  | .str x => some (x.cps.toList.map fun k => .str ⟨#[k]⟩)
  | _ => none
theorem di_str {tg : Expr} (he : DE c X W a f) : DI c X W tg a (mMap f chars) := by
  obtain ⟨te, pe, se⟩ := he
  refine ⟨_, pi_str pe, ?_⟩
  intro O A σ H s r R w
  refine se O A σ H s r _ (Wp.mono (Wp.bind w) ?_)
  intro d s1 H1 _ f1 r1 w1 v q
  cases d with
  | str x =>
    have e := dp_str q
    subst e
    refine ⟨x, rfl, w1 H1 (Stp.refl _ _) r1 _ ⟨fun i O' H' hi fw => ?_, fun i O' H' hi fw => ?_⟩⟩
    · have hi' : i < x.cps.size := by simpa using hi
      refine ⟨hi', fun y H'' e => ?_⟩
      obtain ⟨e1, k, e2, e3⟩ := e
      subst e1
      subst e3
      refine ⟨Grow.refl _ _, .str ⟨#[k]⟩, ?_, .str _⟩
      rw [List.getElem?_map, Array.getElem?_toList, e2]
      rfl
    · show x.cps.size ≤ i
      simpa using hi
  | none => exact w1.elim
  | bool _ => exact w1.elim
  | int _ => exact w1.elim
  | list _ => exact w1.elim
  | tuple _ => exact w1.elim
  | dict _ => exact w1.elim
def upto (lo : Int) (n : Nat) : List D := (List.range n).map fun (k : Nat) => PyData.int (lo + (k : Int))
def rng1 : List D → Option (List D)
  | [.int j] => if btw (-(2 ^ 62) - 1) (2 ^ 62) j = true then some (upto 0 j.toNat) else none
  | _ => none
def rng2 : List D → Option (List D)
  | [.int i, .int j] => if (btw (-(2 ^ 62) - 1) (2 ^ 62) i && btw (-(2 ^ 62) - 1) (2 ^ 62) j) = true then some (upto i (j - i).toNat) else none
  | _ => none
theorem upto_len (lo : Int) (n : Nat) : (upto lo n).length = n := by unfold upto; simp
theorem walk_r (O : List Addr) (H : Hp) (lo : Int) (n : Nat) : WalkOk c (Itr lo n) O H (upto lo n) := by
  refine ⟨fun i O' H' hi fw => ?_, fun i O' H' hi fw => ?_⟩
  · rw [upto_len] at hi
    refine ⟨hi, fun y H'' e => ?_⟩
    obtain ⟨e1, e2⟩ := e
    subst e1
    subst e2
    refine ⟨Grow.refl _ _, .int (lo + i), ?_, .int _⟩
    unfold upto
    rw [List.getElem?_map, List.getElem?_range hi]
    rfl
  · rw [upto_len] at hi
    exact hi
theorem dpa_one {K : PySem.W.Frag} {G : Hp} {vs : List V} {d : D} (h : DpAll K G vs [d]) : ∃ v, vs = [v] ∧ Dp K G v d := by
  cases h with
  | cons q r => cases r; exact ⟨_, rfl, q⟩
theorem dpa_two {K : PySem.W.Frag} {G : Hp} {vs : List V} {d e : D} (h : DpAll K G vs [d, e]) : ∃ v u, vs = [v, u] ∧ Dp K G v d ∧ Dp K G u e := by
  cases h with
  | cons q r =>
    obtain ⟨u, rfl, q2⟩ := dpa_one r
    exact ⟨_, _, rfl, q, q2⟩
theorem rng1_some {ds is : List D} (h : rng1 ds = some is) : ∃ j, ds = [.int j] ∧ (-(2 ^ 62) ≤ j ∧ j < 2 ^ 62) ∧ is = upto 0 j.toNat := by
  unfold rng1 at h
  split at h
  · rename_i j
    split at h
    · rename_i hj
      exact ⟨j, rfl, (by have := btw_iff.mp hj; omega), (Option.some.inj h).symm⟩
    · cases h
  · cases h
theorem rng2_some {ds is : List D} (h : rng2 ds = some is) : ∃ i j, ds = [.int i, .int j] ∧ (-(2 ^ 62) ≤ i ∧ i < 2 ^ 62 ∧ -(2 ^ 62) ≤ j ∧ j < 2 ^ 62) ∧ is = upto i (j - i).toNat := by
  unfold rng2 at h
  split at h
  · rename_i i j
    split at h
    · rename_i hj
      obtain ⟨h1, h2⟩ := Bool.and_eq_true_iff.mp hj
      exact ⟨i, j, rfl, (by have := btw_iff.mp h1; have := btw_iff.mp h2; omega), (Option.some.inj h).symm⟩
    · cases h
  · cases h
theorem di_range1 {tg : Expr} {p : Pos} (hm : X.mg "range" = none) (ha : DA c X W [a] fs) (hg : Gl X "range" := by rfl) (hs : starEach [a] X.env = [(false, eval a X.env)] := by rfl) : DI c X W tg (.Call (.Name "range" p) [a] [] pos) (mMap fs rng1) := by
  obtain ⟨ta, pa, sa⟩ := ha
  refine ⟨_, pi_range1 hg hm pa hs, ?_⟩
  intro O A σ H s r R w
  refine sa O A σ H s r _ (Wp.mono (Wp.bind w) ?_)
  intro ds s1 H1 _ f1 r1 w1 vs q
  cases e : rng1 ds with
  | none => rw [e] at w1; exact w1.elim
  | some is =>
    rw [e] at w1
    obtain ⟨j, rfl, hj, rfl⟩ := rng1_some e
    obtain ⟨v, rfl, q1⟩ := dpa_one q
    have e2 := dp_int q1
    subst e2
    exact ⟨j, rfl, hj.1, hj.2, w1 H1 (Stp.refl _ _) r1 _ (walk_r _ _ _ _)⟩
theorem di_range2 {tg : Expr} {p : Pos} (hm : X.mg "range" = none) (ha : DA c X W [a, b] fs) (hg : Gl X "range" := by rfl) (hs : starEach [a, b] X.env = [(false, eval a X.env), (false, eval b X.env)] := by rfl) (hs2 : starEach [b] X.env = [(false, eval b X.env)] := by rfl) :
    DI c X W tg (.Call (.Name "range" p) [a, b] [] pos) (mMap fs rng2) := by
  obtain ⟨ta, pa, sa⟩ := ha
  refine ⟨_, pi_range2 hg hm pa hs hs2, ?_⟩
  intro O A σ H s r R w
  refine sa O A σ H s r _ (Wp.mono (Wp.bind w) ?_)
  intro ds s1 H1 _ f1 r1 w1 vs q
  cases e : rng2 ds with
  | none => rw [e] at w1; exact w1.elim
  | some is =>
    rw [e] at w1
    obtain ⟨i, j, rfl, hj, rfl⟩ := rng2_some e
    obtain ⟨v, u, rfl, q1, q2⟩ := dpa_two q
    have e2 := dp_int q1
    subst e2
    have e3 := dp_int q2
    subst e3
    exact ⟨i, j, rfl, hj, w1 H1 (Stp.refl _ _) r1 _ (walk_r _ _ _ _)⟩

/-! ### for -/
def forG (t : Tg) (body : G) : List D → G
  | [], s => .nx s
  | d :: r, s => match t d s with
    | none => .bad
    | some s1 => match body s1 with
      | .nx s2 => forG t body r s2
      | .ct s2 => forG t body r s2
      | .brk s2 => .nx s2
      | .ret v s2 => .ret v s2
      | .err x s2 => .err x s2
      | .bad => .bad
def sFor (f : M (List D)) (t : Tg) (body : G) : G := fun s => ex (f s) fun ds s1 => forG t body ds s1
theorem s_for {tg iter : Expr} {body : List Stmt} {t : Tg} {ix : List Nat} (hp : PassesOwn (model X.prog X.w) X.A X.env X.xe) (hi : DI c X W tg iter fs) (hg : DG c X tg ix t) (hb : DSs c X W body g) (hc : X.calm = true := by rfl)
    (hs : ∀ x, foldedSetIterable iter X.env x = pure x := by intro _; rfl) : DS c X W (.For tg iter body [] pos) (sFor fs t g) := by
  obtain ⟨wi, pi, si⟩ := hi
  obtain ⟨tg', pg, sg⟩ := hg
  obtain ⟨tb, pb, sb⟩ := hb
  refine ⟨_, ps_for hp hc pi pg pb hs, ?_⟩
  intro O A σ H s r E w
  refine si O A σ H s r _ (Wp.mono (wp_ex r.sub w) ?_)
  intro ds s1 H1 _ f1 r1 w1 J wk
  refine ⟨fun i m σ' H' => m = ds.length - i ∧ i ≤ ds.length ∧ ∃ O' A' s', Fwd O H1 O' H' ∧ Rel c O' A' σ' H' s' ∧ WpS c W O' H' (forG t g (ds.drop i) s') E, ⟨ds.length, by simp, Nat.zero_le _, O, A, s1, Fwd.refl _ _, r1, by rw [List.drop_zero]; exact w1⟩, ?_⟩
  rintro i m σ' H' ⟨rfl, hi, O', A', s', fw, r', w'⟩
  by_cases hlt : i < ds.length
  · refine .inr ?_
    obtain ⟨hgo, hy⟩ := wk.go i O' H' hlt fw
    refine ⟨hgo, fun σ2 H2 => i + 1 ≤ ds.length ∧ ∃ O2 A2 s2, Fwd O H1 O2 H2 ∧ Rel c O2 A2 σ2 H2 s2 ∧ WpS c W O2 H2 (forG t g (ds.drop (i + 1)) s2) E, fun σ2 H2 h => ⟨ds.length - (i + 1), by omega, rfl, h⟩, fun x H2 y => ?_⟩
    obtain ⟨gr, d, hd, qd⟩ := hy x H2 y
    have e : ds.drop i = d :: ds.drop (i + 1) := by
      obtain ⟨h1, h2⟩ := List.getElem?_eq_some_iff.mp hd
      rw [← h2]
      exact List.drop_eq_getElem_cons hlt
    rw [e] at w'
    unfold forG at w'
    cases z : t d s' with
    | none => rw [z] at w'; exact w'.elim
    | some s2 =>
      rw [z] at w'
      have w' := WpS.fwd (gr.fwd O') w'
      refine sg O' A' σ' H2 s' (r'.grow gr) x d s2 qd z _ fun σ2 _ r2 => ?_
      refine sb O' A' σ2 H2 s2 r2 _ ?_
      cases zb : g s2 with
      | nx s3 =>
        have w' : WpS c W O' H2 (forG t g (ds.drop (i + 1)) s3) E := by
          have w' : WpS c W O' H2 (match g s2 with | .nx s2 => forG t g (ds.drop (i + 1)) s2 | .ct s2 => forG t g (ds.drop (i + 1)) s2 | .brk s2 => .nx s2 | .ret v s2 => .ret v s2 | .err x s2 => .err x s2 | .bad => .bad) E := w'
          rw [zb] at w'; exact w'
        intro O3 A3 σ3 H3 f3 r3
        exact ⟨hlt, O3, A3, s3, (fw.trans (gr.fwd O')).trans f3, r3, WpS.fwd f3 w'⟩
      | ct s3 =>
        have w' : WpS c W O' H2 (forG t g (ds.drop (i + 1)) s3) E := by
          have w' : WpS c W O' H2 (match g s2 with | .nx s2 => forG t g (ds.drop (i + 1)) s2 | .ct s2 => forG t g (ds.drop (i + 1)) s2 | .brk s2 => .nx s2 | .ret v s2 => .ret v s2 | .err x s2 => .err x s2 | .bad => .bad) E := w'
          rw [zb] at w'; exact w'
        intro O3 A3 σ3 H3 f3 r3
        exact ⟨hlt, O3, A3, s3, (fw.trans (gr.fwd O')).trans f3, r3, WpS.fwd f3 w'⟩
      | brk s3 =>
        have w' : WpS c W O' H2 (match g s2 with | .nx s2 => forG t g (ds.drop (i + 1)) s2 | .ct s2 => forG t g (ds.drop (i + 1)) s2 | .brk s2 => .nx s2 | .ret v s2 => .ret v s2 | .err x s2 => .err x s2 | .bad => .bad) E := w'
        rw [zb] at w'; exact w'
      | ret v s3 =>
        have w' : WpS c W O' H2 (match g s2 with | .nx s2 => forG t g (ds.drop (i + 1)) s2 | .ct s2 => forG t g (ds.drop (i + 1)) s2 | .brk s2 => .nx s2 | .ret v s2 => .ret v s2 | .err x s2 => .err x s2 | .bad => .bad) E := w'
        rw [zb] at w'; exact w'
      | err y s3 =>
        have w' : WpS c W O' H2 (match g s2 with | .nx s2 => forG t g (ds.drop (i + 1)) s2 | .ct s2 => forG t g (ds.drop (i + 1)) s2 | .brk s2 => .nx s2 | .ret v s2 => .ret v s2 | .err x s2 => .err x s2 | .bad => .bad) E := w'
        rw [zb] at w'; exact w'
      | bad =>
        have w' : WpS c W O' H2 (match g s2 with | .nx s2 => forG t g (ds.drop (i + 1)) s2 | .ct s2 => forG t g (ds.drop (i + 1)) s2 | .brk s2 => .nx s2 | .ret v s2 => .ret v s2 | .err x s2 => .err x s2 | .bad => .bad) E := w'
        rw [zb] at w'; exact w'.elim
  · have e : i = ds.length := by omega
    subst e
    rw [List.drop_length] at w'
    exact .inl ⟨wk.stop _ O' H' (Nat.le_refl _) fw, w' O' A' σ' H' (Fwd.refl _ _) r'⟩
end
end DL

namespace DL
open PySem PySem.Spec L2
/-! ### one reading for all contexts -/
def teB (c : Cf) (W : WX) (f : M D) : TE := fun σ H Q => ∃ O A s, Rel c O A σ H s ∧ Wp c W O A σ H (f s) (PV c O Q)
def ttB (c : Cf) (W : WX) (f : M Bool) : TT := fun σ H Q => ∃ O A s, Rel c O A σ H s ∧ Wp c W O A σ H (f s) (PB Q)
def tgB (c : Cf) (vs : List Nat) (t : Tg) : TG := fun v σ H Q => ∃ O A s d s', Rel c O A σ H s ∧ Dp c.K (cut O H) v d ∧ t d s = some s' ∧ ∀ σ', SameBut vs σ σ' → Rel c O A σ' H s' → Q σ' H
section
variable {c : Cf} {X : Cx} {W : WX} {a b : Expr} {f : M D} {ft : M Bool} {fs : M (List D)} {g : G} {pos : Pos}
theorem de_best (h : DE c X W a f) : PE X a (teB c W f) := by
  obtain ⟨te, pe, se⟩ := h
  refine ⟨fun pins s σ H Q I hq => ?_⟩
  obtain ⟨O, A, st, r, w⟩ := hq
  exact pe.run pins s σ H Q I (se O A σ H st r Q w)
theorem dt_best (h : DT c X W a ft) : PT X a (ttB c W ft) := by
  obtain ⟨te, pe, se⟩ := h
  refine ⟨fun pins s σ H Q I hq => ?_⟩
  obtain ⟨O, A, st, r, w⟩ := hq
  exact pe.run pins s σ H Q I (se O A σ H st r Q w)
theorem dg_best {vs : List Nat} {t : Tg} (h : DG c X a vs t) : PG X a (tgB c vs t) := by
  obtain ⟨tg, pg, sg⟩ := h
  refine ⟨fun pins s σ H v u Q I rv hq => ?_⟩
  obtain ⟨O, A, st, d, s', r, q, e, k⟩ := hq
  exact pg.run pins s σ H v u Q I rv (sg O A σ H st r v d s' q e Q k)
/-- the tests of a comprehension -/
def mYes : M Bool := fun s => .ok true s
def DTs (c : Cf) (X : Cx) (W : WX) (ifs : List Expr) (f : M Bool) : Prop := PTs X ifs (ttB c W f)
theorem dts_nil : DTs c X W [] mYes := by
  refine ⟨fun pins s σ H Q I h => ?_⟩
  obtain ⟨O, A, st, r, w⟩ := h
  exact pts_nil.run pins s σ H Q I (w H (Stp.refl _ _) r)
theorem dts_one (h : DT c X W a ft) : DTs c X W [a] ft := pts_one (dt_best h)

/-! ### comprehensions -/
def wipeS (s : Sts) : List Nat → Sts
  | [] => s
  | v :: vs => (wipeS s vs).set v .un
def putS (s0 s : Sts) : List Nat → Sts
  | [] => s
  | v :: vs => (putS s0 s vs).set v ((s0[v]?).getD .un)
theorem wipeS_len (s : Sts) : ∀ vs, (wipeS s vs).length = s.length
  | [] => rfl
  | v :: vs => by unfold wipeS; rw [List.length_set, wipeS_len s vs]
theorem putS_len (s0 s : Sts) : ∀ vs, (putS s0 s vs).length = s.length
  | [] => rfl
  | v :: vs => by unfold putS; rw [List.length_set, putS_len s0 s vs]
theorem wipeS_in {s : Sts} {i : Nat} : ∀ {vs : List Nat}, i ∈ vs → i < s.length → (wipeS s vs)[i]? = some .un
  | v :: vs, h, hl => by
    unfold wipeS
    by_cases e : v = i
    · subst e
      rw [List.getElem?_set_self (by rw [wipeS_len]; exact hl)]
    · rw [List.getElem?_set_ne e]
      rcases List.mem_cons.mp h with z | z
      · exact absurd z.symm e
      · exact wipeS_in z hl
theorem wipeS_out {s : Sts} {i : Nat} : ∀ {vs : List Nat}, i ∉ vs → (wipeS s vs)[i]? = s[i]?
  | [], _ => rfl
  | v :: vs, h => by
    rw [List.mem_cons, not_or] at h
    unfold wipeS
    rw [List.getElem?_set_ne (Ne.symm h.1)]
    exact wipeS_out h.2
theorem putS_in {s0 s : Sts} {i : Nat} : ∀ {vs : List Nat}, i ∈ vs → i < s.length → (putS s0 s vs)[i]? = some ((s0[i]?).getD .un)
  | v :: vs, h, hl => by
    unfold putS
    by_cases e : v = i
    · subst e
      rw [List.getElem?_set_self (by rw [putS_len]; exact hl)]
    · rw [List.getElem?_set_ne e]
      rcases List.mem_cons.mp h with z | z
      · exact absurd z.symm e
      · exact putS_in z hl
theorem putS_out {s0 s : Sts} {i : Nat} : ∀ {vs : List Nat}, i ∉ vs → (putS s0 s vs)[i]? = s[i]?
  | [], _ => rfl
  | v :: vs, h => by
    rw [List.mem_cons, not_or] at h
    unfold putS
    rw [List.getElem?_set_ne (Ne.symm h.1)]
    exact putS_out h.2
theorem wipe_in {σ : St} {i : Nat} : ∀ {vs : List Nat}, i ∈ vs → i < σ.length → (wipe σ vs)[i]? = some none
  | v :: vs, h, hl => by
    unfold wipe
    by_cases e : v = i
    · subst e
      rw [List.getElem?_set_self (by rw [wipe_length]; exact hl)]
    · rw [List.getElem?_set_ne e]
      rcases List.mem_cons.mp h with z | z
      · exact absurd z.symm e
      · exact wipe_in z hl
theorem wipe_but {σ σ' : St} {vs : List Nat} (h : SameBut vs (wipe σ vs) σ') : wipe σ' vs = wipe σ vs := by
  apply List.ext_getElem?
  intro i
  have hl : σ'.length = σ.length := by rw [h.1, wipe_length]
  by_cases hi : i ∈ vs
  · by_cases hn : i < σ.length
    · rw [wipe_in hi hn, wipe_in hi (by rw [hl]; exact hn)]
    · rw [List.getElem?_eq_none (by rw [wipe_length]; omega), List.getElem?_eq_none (by rw [wipe_length]; omega)]
  · rw [wipe_out hi, wipe_out hi, h.2 i hi, wipe_out hi]
theorem Rel.wipe {O A : List Addr} {σ : St} {H : Hp} {s : Sts} {vs : List Nat} (hv : ∀ v ∈ vs, c.np ≤ v) (r : Rel c O A σ H s) : Rel c O A (wipe σ vs) H (wipeS s vs) := by
  have f : ∀ (j : Nat) (y : Sl), (wipeS s vs)[j]? = some y → (j ∈ vs ∧ y = .un) ∨ (j ∉ vs ∧ s[j]? = some y) := fun j y h => by
    by_cases hj : j ∈ vs
    · have hl : j < s.length := by
        have := (List.getElem?_eq_some_iff.mp h).1
        rw [wipeS_len] at this
        exact this
      rw [wipeS_in hj hl] at h
      exact .inl ⟨hj, (Option.some.inj h).symm⟩
    · rw [wipeS_out hj] at h
      exact .inr ⟨hj, h⟩
  refine ⟨by rw [wipe_length, wipeS_len]; exact r.len, r.sub, r.alv, fun j y h => ?_, fun j k ds es l h1 h2 o1 o2 h3 h4 => ?_, r.kp, r.fr, r.z0, r.o0, fun p hp => ?_, r.tb⟩
  · rcases f j y h with ⟨_, rfl⟩ | ⟨hj, h⟩
    · trivial
    · rw [wipe_out hj]
      exact r.slot j y h
  · rcases f j _ h1 with ⟨_, z⟩ | ⟨hj, h1⟩
    · subst z; cases o1
    · rcases f k _ h2 with ⟨_, z⟩ | ⟨hk, h2⟩
      · subst z; cases o2
      · rw [wipe_out hj] at h3
        rw [wipe_out hk] at h4
        exact r.inj j k ds es l h1 h2 o1 o2 h3 h4
  · obtain ⟨h1, h2, ds, h3⟩ := r.pn p hp
    have hn : p.1 ∉ vs := fun z => by
      have := hv _ z
      omega
    exact ⟨h1, by rw [wipe_out hn]; exact h2, ds, by rw [wipeS_out hn]; exact h3⟩
/-- without p -/
def del (p : Addr) (H : Hp) : Hp := fun a => if a = p then none else H a
theorem del_ne {p a : Addr} {H : Hp} (h : a ≠ p) : del p H a = H a := if_neg h
theorem del_same {p : Addr} {H : Hp} : del p H p = none := if_pos rfl
theorem cut_del {O : List Addr} {p : Addr} {H : Hp} : cut O (del p H) = cut (p :: O) H := by
  funext x
  by_cases hx : x ∈ O
  · rw [cut_in hx, cut_in (List.mem_cons_of_mem _ hx)]
  · by_cases e : x = p
    · rw [e, cut_in List.mem_cons_self]
      rw [e] at hx
      rw [cut_out hx, del_same]
    · rw [cut_out hx, cut_out (by simp [e, hx]), del_ne e]
theorem cut_cons {O : List Addr} {H : Hp} {p : Addr} {o : HO} (hp : H p = none) : cut (p :: O) (upd H p o) = cut O H := by
  funext x
  by_cases hx : x ∈ O
  · rw [cut_in hx, cut_in (List.mem_cons_of_mem _ hx)]
  · by_cases e : x = p
    · rw [e, cut_in List.mem_cons_self]
      rw [e] at hx
      rw [cut_out hx, hp]
    · rw [cut_out hx, cut_out (by simp [e, hx]), upd_ne e]
/-- a new thing at p, protected -/
theorem Rel.prot {O A : List Addr} {σ : St} {H : Hp} {s : Sts} {p : Addr} {o : HO} (r : Rel c O A σ H s) (hp : H p = none) (n : NT o) : Rel c (p :: O) A σ (upd H p o) s where
  len := r.len
  sub := fun a ha => List.mem_cons_of_mem _ (r.sub a ha)
  alv := fun a ha => by
    rcases List.mem_cons.mp ha with z | z
    · rw [z]; exact ⟨_, upd_same, n⟩
    · obtain ⟨u, e, m⟩ := r.alv a z
      exact ⟨u, by rw [upd_ne (ne_of_none e hp)]; exact e, m⟩
  slot := fun i x h => by
    have z := r.slot i x h
    cases x with
    | un => trivial
    | dat d => obtain ⟨v, e, q⟩ := z; exact ⟨v, e, by rw [cut_cons hp]; exact q⟩
    | own ds => obtain ⟨l, e, a1, q⟩ := z; exact ⟨l, e, a1, q.to (fun o n a2 => by rw [upd_ne (ne_of_none a2 hp)]; exact a2) (by rw [cut_cons hp]; exact Sub.refl _)⟩
    | dic b => obtain ⟨l, e, a1, q⟩ := z; exact ⟨l, e, a1, q.to (fun o n a2 => by rw [upd_ne (ne_of_none a2 hp)]; exact a2) (by rw [cut_cons hp]; exact Sub.refl _)⟩
  inj := r.inj
  kp := fun a u e m ha => by
    have h := r.kp a u e m ha
    rw [upd_ne (ne_of_none h hp)]
    exact h
  fr := r.fr
  z0 := r.z0
  o0 := fun a ha => List.mem_cons_of_mem _ (r.o0 a ha)
  pn := r.pn
  tb := fun P hP => by
    exact (r.tb P hP).keep fun a b e _ => by rw [upd_ne (ne_of_none e hp)]; exact e
/-- what is protected and not owned is written -/
theorem Rel.wrO {O A : List Addr} {σ : St} {H : Hp} {s : Sts} {p : Addr} {o u : HO} (r : Rel c O A σ H s) (hO : p ∈ O) (hA : p ∉ A) (hp : H p = some o) (n : NT o) (n' : NT u) (h0 : ∀ w, c.H0 p = some w → ¬ NT w) (hx : ∀ φ, o ≠ .ext φ := by intro φ z; cases z) : Rel c O A σ (upd H p u) s where
  len := r.len
  sub := r.sub
  alv := fun a ha => by
    by_cases z : a = p
    · rw [z]; exact ⟨_, upd_same, n'⟩
    · obtain ⟨w, e, m⟩ := r.alv a ha
      exact ⟨w, by rw [upd_ne z]; exact e, m⟩
  slot := fun i x h => by
    have z := r.slot i x h
    cases x with
    | un => trivial
    | dat d => obtain ⟨v, e, q⟩ := z; exact ⟨v, e, by rw [cut_upd hO]; exact q⟩
    | own ds => obtain ⟨l, e, a1, q⟩ := z; exact ⟨l, e, a1, q.to (fun o n a2 => by rw [upd_ne (fun w => hA (by rw [← w]; exact a1))]; exact a2) (by rw [cut_upd hO]; exact Sub.refl _)⟩
    | dic b => obtain ⟨l, e, a1, q⟩ := z; exact ⟨l, e, a1, q.to (fun o n a2 => by rw [upd_ne (fun w => hA (by rw [← w]; exact a1))]; exact a2) (by rw [cut_upd hO]; exact Sub.refl _)⟩
  inj := r.inj
  kp := fun a w e m ha => by
    have h := r.kp a w e m ha
    rw [upd_ne (fun z => ?_)]
    · exact h
    · rw [z] at e; exact h0 w e m
  fr := r.fr
  z0 := r.z0
  o0 := r.o0
  pn := r.pn
  tb := r.tb.upd hp n hx
def lcG (vs : List Nat) (t : Tg) (test : M Bool) (elt : M D) : List D → M (List D)
  | [], s => .ok [] s
  | d :: r, s => match t d s with
    | none => .bad
    | some s1 => (test s1).bind fun b s2 => if b = true then (elt s2).bind fun x s3 => (lcG vs t test elt r (wipeS s3 vs)).bind fun xs s4 => .ok (x :: xs) s4 else lcG vs t test elt r (wipeS s2 vs)
def noOwn (vs : List Nat) (s : Sts) : Bool := vs.all fun v => match s[v]? with
  | some (.own _) => false
  | some (.dic _) => false
  | some _ => true
  | none => false
def mLc (vs : List Nat) (fi : M (List D)) (t : Tg) (test : M Bool) (elt : M D) : M (List D) := fun s => (fi s).bind fun ds s1 => if noOwn vs s1 = true then match lcG vs t test elt ds (wipeS s1 vs) with
    | .ok xs s2 => if xs.length ≤ sizeLine then .ok xs (putS s1 s2 vs) else .bad
    | _ => .bad
  else .bad
abbrev Wno : WX := fun _ _ _ _ => False
theorem noOwn_not {vs : List Nat} {s : Sts} (h : noOwn vs s = true) {v : Nat} (hv : v ∈ vs) : ∃ x, s[v]? = some x ∧ x.ow = false := by
  have z := List.all_eq_true.mp h v hv
  cases e : s[v]? with
  | none => rw [e] at z; cases z
  | some x =>
    rw [e] at z
    cases x with
    | un => exact ⟨_, rfl, rfl⟩
    | dat _ => exact ⟨_, rfl, rfl⟩
    | own _ => cases z
    | dic _ => cases z
/-- behind a comprehension: the new list's place taken away -/
theorem Rel.unlc {O A : List Addr} {σ : St} {H1 H' : Hp} {s1 sf : Sts} {p : Addr} {vs : List Nat} (r1 : Rel c O A σ H1 s1) (hp : H1 p = none) (st : Stp A H1 H') (no : noOwn vs s1 = true) (r : Rel c (p :: O) A (L2.wipe σ vs) H' sf) (hv : ∀ v ∈ vs, c.np ≤ v) (hx : ∃ xs, H' p = some (.lst xs)) :
    Rel c O A σ (del p H') (putS s1 sf vs) := by
  have pO := r1.fresh hp
  have ce : cut O (del p H') = cut (p :: O) H' := cut_del
  have at_ : ∀ a, a ≠ p → del p H' a = H' a := fun a h => del_ne h
  have f : ∀ (j : Nat) (y : Sl), (putS s1 sf vs)[j]? = some y → (j ∈ vs ∧ s1[j]? = some y ∧ y.ow = false) ∨ (j ∉ vs ∧ sf[j]? = some y) := fun j y h => by
    by_cases hj : j ∈ vs
    · have hl : j < sf.length := by
        have := (List.getElem?_eq_some_iff.mp h).1
        rw [putS_len] at this
        exact this
      rw [putS_in hj hl] at h
      obtain ⟨x, e, n⟩ := noOwn_not no hj
      rw [e] at h
      have h := Option.some.inj h
      have h : x = y := h
      subst h
      exact .inl ⟨hj, e, n⟩
    · rw [putS_out hj] at h
      exact .inr ⟨hj, h⟩
  refine ⟨by rw [putS_len, ← r.len, wipe_length], r1.sub, fun a ha => ?_, fun j y h => ?_, fun j k ds es l h1 h2 o1 o2 h3 h4 => ?_, fun a o e n ha => ?_, r1.fr, r1.z0, r1.o0, fun q hq => ?_, fun P hP => ?_⟩
  · have hne : a ≠ p := fun z => pO (by rw [← z]; exact ha)
    rw [at_ a hne]
    exact r.alv a (List.mem_cons_of_mem _ ha)
  · rcases f j y h with ⟨hj, h, n⟩ | ⟨hj, h⟩
    · have z := r1.slot j y h
      cases y with
      | un => trivial
      | own ds => cases n
      | dic b => cases n
      | dat d =>
        obtain ⟨v, e, q⟩ := z
        refine ⟨v, e, ?_⟩
        rw [ce]
        refine Sub.dp (fun a o e n => ?_) q
        obtain ⟨h1, h2⟩ := cut_some e
        rw [cut_out (by simp [h1, ne_of_none h2 hp])]
        exact st a o (fun w => h1 (r1.sub a w)) h2 n
    · have z := r.slot j y h
      rw [wipe_out hj] at z
      cases y with
      | un => trivial
      | dat d => obtain ⟨v, e, q⟩ := z; exact ⟨v, e, by rw [ce]; exact q⟩
      | own ds =>
        obtain ⟨l, e, a1, q⟩ := z
        have hne : l ≠ p := fun w => pO (by rw [← w]; exact r1.sub l a1)
        exact ⟨l, e, a1, q.to (fun o n a2 => by rw [at_ l hne]; exact a2) (by rw [ce]; exact Sub.refl _)⟩
      | dic b =>
        obtain ⟨l, e, a1, q⟩ := z
        have hne : l ≠ p := fun w => pO (by rw [← w]; exact r1.sub l a1)
        exact ⟨l, e, a1, q.to (fun o n a2 => by rw [at_ l hne]; exact a2) (by rw [ce]; exact Sub.refl _)⟩
  · rcases f j _ h1 with ⟨_, _, n⟩ | ⟨hj, h1⟩
    · rw [n] at o1; cases o1
    · rcases f k _ h2 with ⟨_, _, n⟩ | ⟨hk, h2⟩
      · rw [n] at o2; cases o2
      · refine r.inj j k ds es l h1 h2 o1 o2 ?_ ?_
        · rw [wipe_out hj]; exact h3
        · rw [wipe_out hk]; exact h4
  · have h1 := r1.kp a o e n ha
    rw [at_ a (ne_of_none h1 hp)]
    exact r.kp a o e n ha
  · obtain ⟨h1, h2, ds, h3⟩ := r.pn q hq
    have hn : q.1 ∉ vs := fun z => by
      have := hv _ z
      omega
    refine ⟨h1, ?_, ds, ?_⟩
    · rw [wipe_out hn] at h2; exact h2
    · rw [putS_out hn]; exact h3
  · obtain ⟨xs, hx⟩ := hx
    refine (r.tb P hP).keep fun a b e hb => ?_
    rw [at_ a (fun z => ?_)]
    · exact e
    · rw [z, hx] at e
      have e := Option.some.inj e
      rcases hb with ⟨ps, rfl⟩ | ⟨φ, rfl⟩ <;> cases e
theorem sem_lc {wi : TI} {vs : List Nat} {t : Tg} {test : M Bool} {elt : M D} (hv : ∀ v ∈ vs, c.np ≤ v) (si : SemI c W wi fs) : SemF c W (tLc wi (tgB c vs t) (ttB c Wno test) (teB c Wno elt) vs) (mLc vs fs t test elt) := by
  intro O A σ H s r Q w
  refine si O A σ H s r _ (Wp.mono (Wp.bind w) ?_)
  intro ds s1 H1 _ f1 r1 w1 J wk p hp
  by_cases no : noOwn vs s1 = true
  · rw [if_pos no] at w1
    have pO := r1.fresh hp
    have pA : p ∉ A := fun z => pO (r1.sub p z)
    have h0 : ∀ u, c.H0 p = some u → ¬ NT u := fun u e n => by
      by_cases ha : p ∈ c.A0
      · obtain ⟨q, hq, e2⟩ := List.mem_map.mp ha
        obtain ⟨_, h2, es, h3⟩ := r1.pn q hq
        obtain ⟨l', vs', e3, _, e4, _⟩ := r1.own h3
        rw [h2] at e3
        have e3 := Option.some.inj (Option.some.inj e3)
        injection e3 with e3
        rw [← e3, e2, hp] at e4
        cases e4
      · have := r1.kp p u e n ha
        rw [hp] at this; cases this
    cases hr : lcG vs t test elt ds (wipeS s1 vs) with
    | err x s2 => rw [hr] at w1; exact w1.elim
    | bad => rw [hr] at w1; exact w1.elim
    | ok xs sf =>
      rw [hr] at w1
      by_cases hz : xs.length ≤ sizeLine
      · have w1 : Wp c W O A σ H1 (if xs.length ≤ sizeLine then .ok xs (putS s1 sf vs) else .bad) (fun ds _ H' => ∀ p vs, H' p = none → DpAll c.K (cut O H') vs ds → Q (.ref p) (upd H' p (.lst vs))) := w1
        rw [if_pos hz] at w1
        refine ⟨fun i m H' => m = ds.length - i ∧ i ≤ ds.length ∧ ∃ (s' : Sts) (acc : List V) (accd rest : List D), Stp A H1 H' ∧ H' p = some (.lst acc) ∧ Rel c (p :: O) A (wipe σ vs) H' s' ∧ DpAll c.K (cut (p :: O) H') acc accd ∧ lcG vs t test elt (ds.drop i) s' = .ok rest sf ∧ accd ++ rest = xs,
          ⟨ds.length, by simp, Nat.zero_le _, wipeS s1 vs, [], [], xs, fun a o _ e _ => by rw [upd_ne (ne_of_none e hp)]; exact e, upd_same, (r1.wipe hv).prot hp nt_lst, .nil, by rw [List.drop_zero]; exact hr, rfl⟩, ?_⟩
        rintro i m H' ⟨rfl, hi, s', acc, accd, rest, st, hacc, r', qa, hl, hx⟩
        have fw : Fwd O H1 (p :: O) H' := fun a o e n => by
          obtain ⟨h1, h2⟩ := cut_some e
          rw [cut_out (by simp [h1, ne_of_none h2 hp])]
          exact st a o (fun z => h1 (r1.sub a z)) h2 n
        by_cases hlt : i < ds.length
        · refine .inr ?_
          obtain ⟨hgo, hy⟩ := wk.go i (p :: O) H' hlt fw
          refine ⟨hgo, fun H2 => i + 1 ≤ ds.length ∧ ∃ (s' : Sts) (acc : List V) (accd rest : List D), Stp A H1 H2 ∧ H2 p = some (.lst acc) ∧ Rel c (p :: O) A (wipe σ vs) H2 s' ∧ DpAll c.K (cut (p :: O) H2) acc accd ∧ lcG vs t test elt (ds.drop (i + 1)) s' = .ok rest sf ∧ accd ++ rest = xs, fun H2 h => ⟨ds.length - (i + 1), by omega, rfl, h⟩, fun x H2 y => ?_⟩
          obtain ⟨gr, d, hd, qd⟩ := hy x H2 y
          have e : ds.drop i = d :: ds.drop (i + 1) := by
            obtain ⟨h1, h2⟩ := List.getElem?_eq_some_iff.mp hd
            rw [← h2]
            exact List.drop_eq_getElem_cons hlt
          rw [e] at hl
          unfold lcG at hl
          cases z : t d s' with
          | none => rw [z] at hl; cases hl
          | some s2 =>
            rw [z] at hl
            have hl : (test s2).bind (fun b s2 => if b = true then (elt s2).bind fun x s3 => (lcG vs t test elt (ds.drop (i + 1)) (wipeS s3 vs)).bind fun xs s4 => .ok (x :: xs) s4 else lcG vs t test elt (ds.drop (i + 1)) (wipeS s2 vs)) = .ok rest sf := hl
            have hacc2 : H2 p = some (.lst acc) := gr.sub p _ hacc nt_lst
            refine ⟨p :: O, A, s', d, s2, r'.grow gr, qd, z, fun σ2 b2 r2 => ⟨wipe_but b2, ?_⟩⟩
            have wb : wipe σ2 vs = wipe σ vs := wipe_but b2
            refine ⟨p :: O, A, s2, r2, ?_⟩
            cases zt : test s2 with
            | err _ _ => rw [zt] at hl; cases hl
            | bad => rw [zt] at hl; cases hl
            | ok bv s3 =>
              rw [zt] at hl
              intro H3 st3 r3
              have st13 : Stp A H1 H3 := (st.trans (gr.stp A)).trans st3
              have hacc3 : H3 p = some (.lst acc) := st3 p _ pA hacc2 nt_lst
              have cuts : Sub (cut (p :: O) H') (cut (p :: O) H3) := Sub.trans (gr.cut _) (st3.fwd r2.sub)
              cases bv with
              | true =>
                refine (if_pos rfl).mpr ?_
                have hl : (elt s3).bind (fun x s3 => (lcG vs t test elt (ds.drop (i + 1)) (wipeS s3 vs)).bind fun xs s4 => .ok (x :: xs) s4) = .ok rest sf := hl
                refine ⟨p :: O, A, s3, r3, ?_⟩
                cases ze : elt s3 with
                | err _ _ => rw [ze] at hl; cases hl
                | bad => rw [ze] at hl; cases hl
                | ok xd s4 =>
                  rw [ze] at hl
                  have hl : (lcG vs t test elt (ds.drop (i + 1)) (wipeS s4 vs)).bind (fun xs s4 => .ok (xd :: xs) s4) = .ok rest sf := hl
                  intro H4 st4 r4 v qv
                  have hacc4 : H4 p = some (.lst acc) := st4 p _ pA hacc3 nt_lst
                  cases zr : lcG vs t test elt (ds.drop (i + 1)) (wipeS s4 vs) with
                  | err _ _ => rw [zr] at hl; cases hl
                  | bad => rw [zr] at hl; cases hl
                  | ok rs s5 =>
                    rw [zr] at hl
                    have hl : Rs.ok (xd :: rs) s5 = .ok rest sf := hl
                    cases hl
                    have la : acc.length = accd.length := dpa_len qa
                    have tot : accd.length + (rs.length + 1) = xs.length := by rw [← hx]; simp
                    refine ⟨acc, hacc4, by omega, hlt, wipeS s4 vs, acc ++ [v], accd ++ [xd], rs, ?_, upd_same, ?_, ?_, zr, ?_⟩
                    · intro x o hx2 e n
                      rw [upd_ne (ne_of_none e hp)]
                      exact (st13.trans st4) x o hx2 e n
                    · have := (r4.wrO List.mem_cons_self pA hacc4 nt_lst nt_lst h0 (u := .lst (acc ++ [v]))).wipe hv
                      rw [wb] at this
                      exact this
                    · rw [cut_upd List.mem_cons_self]
                      exact dpa_snoc (Sub.dpa (st4.fwd r3.sub) (Sub.dpa cuts qa)) qv
                    · rw [← hx, List.append_assoc]; rfl
              | false =>
                refine (if_neg Bool.false_ne_true).mpr ?_
                have hl : lcG vs t test elt (ds.drop (i + 1)) (wipeS s3 vs) = .ok rest sf := hl
                refine ⟨hlt, wipeS s3 vs, acc, accd, rest, st13, hacc3, ?_, Sub.dpa cuts qa, hl, hx⟩
                have := r3.wipe hv
                rw [wb] at this
                exact this
        · have e : i = ds.length := by omega
          subst e
          rw [List.drop_length] at hl
          have hl : Rs.ok [] s' = .ok rest sf := hl
          cases hl
          refine .inl ⟨wk.stop _ (p :: O) H' (Nat.le_refl _) fw, ?_⟩
          have rr := r1.unlc hp st no r' hv ⟨acc, hacc⟩
          have ee : upd (del p H') p (.lst acc) = H' := by
            funext x
            by_cases hx2 : x = p
            · rw [hx2, upd_same, hacc]
            · rw [upd_ne hx2, del_ne hx2]
          have := w1 (del p H') (fun a o ha e n => by
            rw [del_ne (ne_of_none e hp)]
            exact st a o ha e n) rr p acc del_same (by rw [cut_del, ← hx, List.append_nil]; exact qa)
          rw [ee] at this
          exact this
      · have w1 : Wp c W O A σ H1 (if xs.length ≤ sizeLine then .ok xs (putS s1 sf vs) else .bad) (fun ds _ H' => ∀ p vs, H' p = none → DpAll c.K (cut O H') vs ds → Q (.ref p) (upd H' p (.lst vs))) := w1
        rw [if_neg hz] at w1
        exact w1.elim
  · rw [if_neg no] at w1
    exact w1.elim
abbrev BlkE (c : Cf) (X : Cx) (scope : Scope) (elt : Expr) (f : M D) : Prop := ∀ (s : Shared) (H : Hp) (C : Addr) (cl : List (Str × Addr)) (fp : List Addr), DE c (X.blk s H scope (compEnvC scope cl C X.env) fp) Wno elt f
abbrev BlkT (c : Cf) (X : Cx) (scope : Scope) (ifs : List Expr) (f : M Bool) : Prop := ∀ (s : Shared) (H : Hp) (C : Addr) (cl : List (Str × Addr)) (fp : List Addr), DTs c (X.blk s H scope (compEnvC scope cl C X.env) fp) Wno ifs f
abbrev BlkG (c : Cf) (X : Cx) (scope : Scope) (tg : Expr) (vs : List Nat) (t : Tg) : Prop := ∀ (s : Shared) (H : Hp) (C : Addr) (cl : List (Str × Addr)) (fp : List Addr), DG c (X.blk s H scope (compEnvC scope cl C X.env) fp) tg vs t
/-- [elt for tg in iter if ..]: a new list -/
theorem f_lc {elt tg iter : Expr} {ifs : List Expr} {scope : Scope} {own : List (Str × Nat)} {t : Tg} {test : M Bool} {fe : M D} (hN : X.N.Nodup) (ok : BlkOk X.N X.env.scope scope own) (hi : DI c X W tg iter fs) (hg : BlkG c X scope tg (own.map (·.2)) t) (ht : BlkT c X scope ifs test) (he : BlkE c X scope elt fe)
    (hv : ∀ v ∈ own.map (·.2), c.np ≤ v := by exact of_decide_eq_true rfl) (hc : X.calm = true := by rfl) (hs : ∀ x, foldedSetIterable iter X.env x = pure x := by intro _; rfl) : DF c X W (.ListComp elt [⟨tg, iter, ifs, 0⟩] scope pos) (mLc (own.map (·.2)) fs t test fe) := by
  obtain ⟨wi, pi, si⟩ := hi
  exact ⟨_, pe_lc hc hN pi ok (fun s H C cl fp => dg_best (hg s H C cl fp)) (fun s H C cl fp => ht s H C cl fp) (fun s H C cl fp => de_best (he s H C cl fp)) hs, sem_lc hv si⟩
theorem d_lc {elt tg iter : Expr} {ifs : List Expr} {scope : Scope} {own : List (Str × Nat)} {t : Tg} {test : M Bool} {fe : M D} (hN : X.N.Nodup) (ok : BlkOk X.N X.env.scope scope own) (hi : DI c X W tg iter fs) (hg : BlkG c X scope tg (own.map (·.2)) t) (ht : BlkT c X scope ifs test) (he : BlkE c X scope elt fe)
    (hv : ∀ v ∈ own.map (·.2), c.np ≤ v := by exact of_decide_eq_true rfl) (hc : X.calm = true := by rfl) (hs : ∀ x, foldedSetIterable iter X.env x = pure x := by intro _; rfl) : DE c X W (.ListComp elt [⟨tg, iter, ifs, 0⟩] scope pos) (mL (mLc (own.map (·.2)) fs t test fe)) := d_of (f_lc hN ok hi hg ht he hv hc hs)
theorem sem_ofF {te : TE} (se : SemF c W te fs) : SemE c W te (mL fs) := by
  intro O A σ H s r Q h
  refine se O A σ H s r _ (Wp.mono (Wp.bind h) ?_)
  intro ds s1 H1 _ f1 r1 h1 p vs hp qs
  exact h1 _ ((Grow.new (c := c) hp).stp A) (r1.grow (Grow.new hp)) _ (dp_newL hp (r1.fresh hp) qs)
/-- name = [..] on one line -/
theorem s_setLc (i : Nat) {y : Str} {py spos : Pos} {elt tg iter : Expr} {ifs : List Expr} {scope : Scope} {own : List (Str × Nat)} {t : Tg} {test : M Bool} {fe : M D} (hN : X.N.Nodup) (ok : BlkOk X.N X.env.scope scope own) (hi : DI c X W tg iter fs) (hg : BlkG c X scope tg (own.map (·.2)) t) (ht : BlkT c X scope ifs test) (he : BlkE c X scope elt fe)
    (hsw : swapsWith (.ListComp elt [⟨tg, iter, ifs, 0⟩] scope pos) (some (.Name y py)) spos.line X.env = pure true := by exact sw_true rfl rfl rfl (by decide +kernel))
    (hy : X.N[i]? = some y := by rfl) (hyl : X.env.scope.names.lookup y = some .local := by rfl)
    (hv : ∀ v ∈ own.map (·.2), c.np ≤ v := by exact of_decide_eq_true rfl) (hc : X.calm = true := by rfl) (hs : ∀ x, foldedSetIterable iter X.env x = pure x := by intro _; rfl) :
    DS c X W (.Assign [.Name y py] (.ListComp elt [⟨tg, iter, ifs, 0⟩] scope pos) spos) (sAsg (mL (mLc (own.map (·.2)) fs t test fe)) (tName i)) := by
  obtain ⟨wi, pi, si⟩ := hi
  exact ⟨_, ps_setLc hc hN hy hyl hsw pi ok (fun s H C cl fp => dg_best (hg s H C cl fp)) (fun s H C cl fp => ht s H C cl fp) (fun s H C cl fp => de_best (he s H C cl fp)) hs, sem_set i (sem_ofF (sem_lc hv si))⟩
theorem s_ownLc (i : Nat) {y : Str} {py spos : Pos} {elt tg iter : Expr} {ifs : List Expr} {scope : Scope} {own : List (Str × Nat)} {t : Tg} {test : M Bool} {fe : M D} (hN : X.N.Nodup) (ok : BlkOk X.N X.env.scope scope own) (hi : DI c X W tg iter fs) (hg : BlkG c X scope tg (own.map (·.2)) t) (ht : BlkT c X scope ifs test) (he : BlkE c X scope elt fe)
    (hsw : swapsWith (.ListComp elt [⟨tg, iter, ifs, 0⟩] scope pos) (some (.Name y py)) spos.line X.env = pure true := by exact sw_true rfl rfl rfl (by decide +kernel))
    (hy : X.N[i]? = some y := by rfl) (hyl : X.env.scope.names.lookup y = some .local := by rfl)
    (hv : ∀ v ∈ own.map (·.2), c.np ≤ v := by exact of_decide_eq_true rfl) (hc : X.calm = true := by rfl) (hs : ∀ x, foldedSetIterable iter X.env x = pure x := by intro _; rfl) :
    DS c X W (.Assign [.Name y py] (.ListComp elt [⟨tg, iter, ifs, 0⟩] scope pos) spos) (sOwn i (mLc (own.map (·.2)) fs t test fe)) := by
  obtain ⟨wi, pi, si⟩ := hi
  exact ⟨_, ps_setLc hc hN hy hyl hsw pi ok (fun s H C cl fp => dg_best (hg s H C cl fp)) (fun s H C cl fp => ht s H C cl fp) (fun s H C cl fp => de_best (he s H C cl fp)) hs, sem_own i (sem_lc hv si)⟩
end
end DL

namespace DL
open PySem PySem.Spec L2
/-! ### what a def promises -/
abbrev FnM := Sts → Rs D
structure AfterC (K : PySem.W.Frag) (T : List (Addr × Option Str)) (O A : List Addr) (H H' : Hp) (vs : List V) (ss' : Sts) : Prop where
  keep : ∀ a o, H a = some o → NT o → a ∉ A → H' a = some o
  tb : Tbs T H'
  own : ∀ (i : Nat) (ds : List D), ss'[i]? = some (.own ds) → ∃ l us, vs[i]? = some (.ref l) ∧ l ∈ A ∧ H' l = some (.lst us) ∧ DpAll K (cut O H') us ds
structure Before (K : PySem.W.Frag) (T : List (Addr × Option Str)) (np : Nat) (O A : List Addr) (H : Hp) (vs : List V) (ss : Sts) : Prop where
  lv : vs.length = np
  ls : ss.length = np
  sub : ∀ a ∈ A, a ∈ O
  alv : ∀ a ∈ O, ∃ o, H a = some o ∧ NT o
  slot : ∀ (i : Nat) (x : Sl), ss[i]? = some x → SlOk K O A H vs[i]? x
  nd : ∀ (i : Nat) (b : Bd), ss[i]? = some (.dic b) → False
  inj : ∀ (i j : Nat) (ds es : List D) (l : Addr), ss[i]? = some (.own ds) → ss[j]? = some (.own es) → vs[i]? = some (.ref l) → vs[j]? = some (.ref l) → i = j
  tb : Tbs T H
def spF (K : PySem.W.Frag) (T : List (Addr × Option Str)) (ca : Str → Addr) (np : Nat) (F : FnM) : Sp := fun vs H Q E => ∃ O A ss, Before K T np O A H vs ss ∧ match F ss with
  | .ok d ss' => ∀ v H', AfterC K T O A H H' vs ss' → Dp K (cut O H') v d → Q v H'
  | .err x ss' => ∀ H', AfterC K T O A H H' vs ss' → E (.ref (ca x)) none H'
  | .bad => False
/-- the owned arguments behind a call, the others as they were -/
def outs : Sts → Sts → Sts
  | .own _ :: r, x :: t => x :: outs r t
  | y :: r, _ :: t => y :: outs r t
  | _, _ => []
theorem outs_own : ∀ {ss s' : Sts} {i : Nat} {ds : List D}, (outs ss s')[i]? = some (.own ds) → (∃ es, ss[i]? = some (.own es)) ∧ s'[i]? = some (.own ds)
  | [], _, _, _, h => by simp [outs] at h
  | .un :: r, [], _, _, h => by simp [outs] at h
  | .dat _ :: r, [], _, _, h => by simp [outs] at h
  | .own _ :: r, [], _, _, h => by simp [outs] at h
  | .dic _ :: r, [], _, _, h => by simp [outs] at h
  | .dic _ :: r, x :: t, 0, _, h => by simp [outs] at h
  | .dic _ :: r, x :: t, i + 1, ds, h => by
    obtain ⟨⟨es, a⟩, b⟩ := outs_own (ss := r) (s' := t) (i := i) (ds := ds) (by simpa [outs] using h)
    exact ⟨⟨es, by simpa using a⟩, by simpa using b⟩
  | .un :: r, x :: t, 0, _, h => by simp [outs] at h
  | .dat _ :: r, x :: t, 0, _, h => by simp [outs] at h
  | .own es :: r, x :: t, 0, _, h => by simp [outs] at h; exact ⟨⟨es, rfl⟩, by simpa using h⟩
  | .un :: r, x :: t, i + 1, ds, h => by
    obtain ⟨⟨es, a⟩, b⟩ := outs_own (ss := r) (s' := t) (i := i) (ds := ds) (by simpa [outs] using h)
    exact ⟨⟨es, by simpa using a⟩, by simpa using b⟩
  | .dat _ :: r, x :: t, i + 1, ds, h => by
    obtain ⟨⟨es, a⟩, b⟩ := outs_own (ss := r) (s' := t) (i := i) (ds := ds) (by simpa [outs] using h)
    exact ⟨⟨es, by simpa using a⟩, by simpa using b⟩
  | .own _ :: r, x :: t, i + 1, ds, h => by
    obtain ⟨⟨es, a⟩, b⟩ := outs_own (ss := r) (s' := t) (i := i) (ds := ds) (by simpa [outs] using h)
    exact ⟨⟨es, by simpa using a⟩, by simpa using b⟩
/-- a def's body as a function of its arguments; n names in all -/
def run (n : Nat) (g : G) : FnM := fun ss => match g (ss ++ List.replicate (n - ss.length) .un) with
  | .nx s => .ok .none (outs ss s)
  | .ret d s => .ok d (outs ss s)
  | .err x s => .err x (outs ss s)
  | .brk _ => .bad
  | .ct _ => .bad
  | .bad => .bad
def pinOf : Nat → List V → Sts → List (Nat × Addr)
  | i, .ref l :: vs, .own _ :: ss => (i, l) :: pinOf (i + 1) vs ss
  | i, _ :: vs, _ :: ss => pinOf (i + 1) vs ss
  | _, _, _ => []
theorem pin_of : ∀ {vs : List V} {ss : Sts} {k : Nat} {p : Nat × Addr}, p ∈ pinOf k vs ss → ∃ j, p.1 = k + j ∧ vs[j]? = some (.ref p.2) ∧ ∃ ds, ss[j]? = some (.own ds)
  | [], _, _, _, h => by simp [pinOf] at h
  | v :: vs, [], _, _, h => by cases v <;> simp [pinOf] at h
  | v :: vs, x :: ss, k, p, h => by
    have rec_ : p ∈ pinOf (k + 1) vs ss → ∃ j, p.1 = k + j ∧ (v :: vs)[j]? = some (.ref p.2) ∧ ∃ ds, (x :: ss)[j]? = some (.own ds) := fun h => by
      obtain ⟨j, e, a, b⟩ := pin_of h
      exact ⟨j + 1, by omega, by simpa using a, by simpa using b⟩
    cases v with
    | ref l =>
      cases x with
      | own es =>
        rcases List.mem_cons.mp (show p ∈ (k, l) :: pinOf (k + 1) vs ss from h) with z | z
        · subst z
          exact ⟨0, rfl, rfl, es, rfl⟩
        · exact rec_ z
      | un => exact rec_ h
      | dat _ => exact rec_ h
      | dic _ => exact rec_ h
    | non => exact rec_ (by cases x <;> exact h)
    | bl _ => exact rec_ (by cases x <;> exact h)
    | int _ => exact rec_ (by cases x <;> exact h)
    | str _ => exact rec_ (by cases x <;> exact h)
    | byt _ => exact rec_ (by cases x <;> exact h)
    | flt _ => exact rec_ (by cases x <;> exact h)
    | ty _ => exact rec_ (by cases x <;> exact h)
theorem of_pin : ∀ {vs : List V} {ss : Sts} {k j : Nat} {l : Addr} {ds : List D}, vs[j]? = some (.ref l) → ss[j]? = some (.own ds) → (k + j, l) ∈ pinOf k vs ss
  | [], _, _, _, _, _, h, _ => by simp at h
  | _ :: _, [], _, _, _, _, _, h => by simp at h
  | v :: vs, x :: ss, k, 0, l, ds, h1, h2 => by
    simp at h1 h2
    subst h1
    subst h2
    exact List.mem_cons_self
  | v :: vs, x :: ss, k, j + 1, l, ds, h1, h2 => by
    have ih := of_pin (vs := vs) (ss := ss) (k := k + 1) (j := j) (l := l) (ds := ds) (by simpa using h1) (by simpa using h2)
    have e : k + 1 + j = k + (j + 1) := by omega
    rw [e] at ih
    cases v with
    | ref l' => cases x with
      | own es => exact List.mem_cons_of_mem _ ih
      | un => exact ih
      | dat _ => exact ih
      | dic _ => exact ih
    | non => cases x <;> exact ih
    | bl _ => cases x <;> exact ih
    | int _ => cases x <;> exact ih
    | str _ => cases x <;> exact ih
    | byt _ => cases x <;> exact ih
    | flt _ => cases x <;> exact ih
    | ty _ => cases x <;> exact ih
theorem rep_un {n i : Nat} {x : Sl} (h : (List.replicate n Sl.un)[i]? = some x) : x = .un := by
  rw [List.getElem?_replicate] at h
  split at h
  · exact (Option.some.inj h).symm
  · cases h
theorem start_rel {K : PySem.W.Frag} {T : List (Addr × Option Str)} {ca : Str → Addr} {np : Nat} {O A : List Addr} {H : Hp} {vs : List V} {ss : Sts} {N : List Str} (b : Before K T np O A H vs ss) (hN : np ≤ N.length) :
    Rel ⟨K, T, ca, np, pinOf 0 vs ss, O, H⟩ O ((pinOf 0 vs ss).map (·.2)) (L2.start N vs) H (ss ++ List.replicate (N.length - ss.length) .un) := by
  have hσ : ∀ i, i < np → (L2.start N vs)[i]? = (vs[i]?).map some := fun i hi => by
    unfold L2.start
    rw [List.getElem?_append_left (by rw [List.length_map, b.lv]; exact hi), List.getElem?_map]
  have hs : ∀ (i : Nat) (x : Sl), (ss ++ List.replicate (N.length - ss.length) Sl.un)[i]? = some x → (i < np ∧ ss[i]? = some x) ∨ x = .un := fun i x h => by
    by_cases hi : i < ss.length
    · rw [List.getElem?_append_left hi] at h
      exact .inl ⟨by rw [← b.ls]; exact hi, h⟩
    · rw [List.getElem?_append_right (by omega)] at h
      exact .inr (rep_un h)
  refine ⟨by unfold L2.start; rw [List.length_append, List.length_append, List.length_map, List.length_replicate, List.length_replicate, b.lv, b.ls], fun a ha => ?_, b.alv, fun i x h => ?_, fun i j ds es l h1 h2 o1 o2 h3 h4 => ?_, fun a o e _ _ => e, fun a ha => .inl ha, b.alv, fun a ha => ha, fun p hp => ?_, b.tb⟩
  · obtain ⟨p, hp, e⟩ := List.mem_map.mp ha
    obtain ⟨j, _, e1, ds, e2⟩ := pin_of hp
    obtain ⟨l, e3, e4, us, _⟩ := b.slot j _ e2
    rw [e1] at e3
    cases e3
    rw [← e]
    exact b.sub _ e4
  · rcases hs i x h with ⟨hi, h⟩ | rfl
    · rw [hσ i hi]
      have z := b.slot i x h
      cases x with
      | un => trivial
      | dat d =>
        obtain ⟨v, e, q⟩ := z
        exact ⟨v, by rw [e]; rfl, q⟩
      | own ds =>
        obtain ⟨l, e, a1, us, a2, q⟩ := z
        refine ⟨l, by rw [e]; rfl, ?_, us, a2, q⟩
        have := of_pin (k := 0) e h
        exact List.mem_map.mpr ⟨_, this, rfl⟩
      | dic _ => exact (b.nd i _ h).elim
    · trivial
  · rcases hs i _ h1 with ⟨hi, h1⟩ | z
    · rcases hs j _ h2 with ⟨hj, h2⟩ | z
      · rw [hσ i hi] at h3
        rw [hσ j hj] at h4
        have ow : ∀ (k : Nat) (y : Sl), ss[k]? = some y → y.ow = true → ∃ ds, y = .own ds := fun k y hy ho => by
          cases y with
          | un => cases ho
          | dat _ => cases ho
          | own ds => exact ⟨ds, rfl⟩
          | dic _ => exact (b.nd k _ hy).elim
        obtain ⟨d1, rfl⟩ := ow i _ h1 o1
        obtain ⟨d2, rfl⟩ := ow j _ h2 o2
        refine b.inj i j d1 d2 l h1 h2 ?_ ?_
        · cases z : vs[i]? with
          | none => rw [z] at h3; cases h3
          | some v => rw [z] at h3; cases h3; rfl
        · cases z : vs[j]? with
          | none => rw [z] at h4; cases h4
          | some v => rw [z] at h4; cases h4; rfl
      · rw [z] at o2; cases o2
    · rw [z] at o1; cases o1
  · obtain ⟨j, e0, e1, ds, e2⟩ := pin_of hp
    have hj : j < np := by
      have := (List.getElem?_eq_some_iff.mp e1).1
      rw [b.lv] at this
      exact this
    have e0 : p.1 = j := by omega
    rw [e0]
    refine ⟨hj, by rw [hσ j hj, e1]; rfl, ds, ?_⟩
    rw [List.getElem?_append_left (by rw [b.ls]; exact hj)]
    exact e2
theorem after_of {c : Cf} {O A O' A' : List Addr} {H H' : Hp} {vs : List V} {ss s' : Sts} {σ' : St} {np : Nat} (hp : c.pin = pinOf 0 vs ss) (h0 : c.H0 = H) (hO : c.O0 = O) (b : Before c.K c.T np O A H vs ss) (r : Rel c O' A' σ' H' s') : AfterC c.K c.T O A H H' vs (outs ss s') where
  keep := fun a o e n ha => by
    refine r.kp a o (by rw [h0]; exact e) n fun z => ha ?_
    obtain ⟨p, hq, e2⟩ := List.mem_map.mp z
    rw [hp] at hq
    obtain ⟨j, _, e1, ds, e3⟩ := pin_of hq
    obtain ⟨l, e4, e5, us, _⟩ := b.slot j _ e3
    rw [e1] at e4
    cases e4
    rw [← e2]
    exact e5
  tb := r.tb
  own := fun i ds h => by
    obtain ⟨⟨es, h1⟩, h2⟩ := outs_own h
    obtain ⟨l, e4, e5, us, _⟩ := b.slot i _ h1
    have hq : (i, l) ∈ c.pin := by
      rw [hp]
      have := of_pin (k := 0) e4 h1
      rw [Nat.zero_add] at this
      exact this
    obtain ⟨_, g2, _⟩ := r.pn _ hq
    obtain ⟨l', us', g3, g4, g5, g6⟩ := r.own h2
    rw [g2] at g3
    cases g3
    refine ⟨l, us', e4, e5, g5, Sub.dpa (fun a o e n => ?_) g6⟩
    obtain ⟨k1, k2⟩ := cut_some e
    rw [cut_out (fun z => k1 (r.o0 a (by rw [hO]; exact z)))]
    exact k2
section
variable {P : Program} {w : World} {K : PySem.W.Frag} {mg : Str → Option Value} {base : Heap}
abbrev Wfn (E : XK) : WX := fun cls d _ H => E cls d H
/-- a def keeps the promise of its mirror -/
theorem fn_ok {x qual : Str} {st : Stmt} {f : Addr} {fd : FuncData} {N ps : List Str} {k : Nat} {T : List (Addr × Option Str)} {ca : Str → Addr} {g : G} {np n : Nat} (F : Fun K x qual st f fd) (S : FnScope N ps (defScope st)) (hnp : ps.length = np) (hn : N.length = n) (hle : np ≤ n)
    (hb : ∀ (pin : List (Nat × Addr)) (O0 : List Addr) (H0 : Hp) (cdv : Value) (A : Around) (outer : List Env) (s : Shared) (H : Hp) (E : XK), Room k (A.deeper (PyProof.Rows.envOfC qual (defScope st) s.heap.objs.size f cdv)) →
      DSs ⟨K, T, ca, np, pin, O0, H0⟩ (cxOf (L2.CX P w) P w K mg base N qual (defScope st) f cdv A outer s H E) (Wfn E) (defBody st) g) : FnOk P w K mg base (L2.CX P w) (k + 1) f fd ps (spF K T ca np (run n g)) := by
  refine F.okX S (fun vs H Q E h => ?_) (fun cdv A outer s H vs Q E hr h => ?_)
  · obtain ⟨O, A, ss, b, _⟩ := h
    rw [b.lv, hnp]
  · obtain ⟨O, A', ss, b, h⟩ := h
    obtain ⟨tu, pu, su⟩ := hb (pinOf 0 vs ss) O H cdv A outer s H E hr
    refine ⟨tu, pu, ?_⟩
    have rel := start_rel (ca := ca) (N := N) b (by omega)
    refine su O _ (L2.start N vs) H _ rel _ ?_
    have after : ∀ O' A'' σ' H' s', Rel ⟨K, T, ca, np, pinOf 0 vs ss, O, H⟩ O' A'' σ' H' s' → AfterC K T O A' H H' vs (outs ss s') := fun O' A'' σ' H' s' r => after_of rfl rfl rfl b r
    have down : ∀ O' A'' σ' H' s' v d, Rel ⟨K, T, ca, np, pinOf 0 vs ss, O, H⟩ O' A'' σ' H' s' → Dp K (cut O' H') v d → Dp K (cut O H') v d := fun O' A'' σ' H' s' v d r q => by
      refine Sub.dp (fun a o e n => ?_) q
      obtain ⟨k1, k2⟩ := cut_some e
      rw [cut_out (fun z => k1 (r.o0 a z))]
      exact k2
    unfold run at h
    rw [hn]
    cases z : g (ss ++ List.replicate (n - ss.length) .un) with
    | nx s' =>
      rw [z] at h
      intro O' A'' σ' H' _ r
      exact h _ _ (after _ _ _ _ _ r) .non
    | ret d s' =>
      rw [z] at h
      intro O' A'' σ' H' v _ r q
      exact h _ _ (after _ _ _ _ _ r) (down _ _ _ _ _ _ _ r q)
    | err y s' =>
      rw [z] at h
      intro O' A'' σ' H' _ r
      exact h _ (after _ _ _ _ _ r)
    | brk s' => rw [z] at h; exact h.elim
    | ct s' => rw [z] at h; exact h.elim
    | bad => rw [z] at h; exact h.elim
end

/-! ### calls -/
def mCall (np : Nat) (F : FnM) (fa : M (List D)) : M D := fun s => (fa s).bind fun ds s1 => if ds.length = np then match F (ds.map .dat) with
    | .ok d _ => .ok d s1
    | .err x _ => .err x s1
    | .bad => .bad
  else .bad
def mCallO (np i : Nat) (F : FnM) (fp fq : M (List D)) : M D := fun s => match ownAt s i with
  | none => .bad
  | some _ => (fp s).bind fun ds s1 => (fq s1).bind fun es s2 => match ownAt s2 i with
    | none => .bad
    | some xs => if ds.length + 1 + es.length = np then match F (ds.map .dat ++ .own xs :: es.map .dat) with
        | .ok d ss' => (match ownAt ss' ds.length with
          | some ys => .ok d (s2.set i (.own ys))
          | none => .bad)
        | .err x ss' => (match ownAt ss' ds.length with
          | some ys => .err x (s2.set i (.own ys))
          | none => .bad)
        | .bad => .bad
      else .bad
section
variable {c : Cf} {X : Cx} {W : WX} {a b : Expr} {f : M D} {fs fp fq : M (List D)} {g : G} {pos : Pos}
theorem dat_slot {K : PySem.W.Frag} {O A : List Addr} {H : Hp} {vs : List V} {ds : List D} (q : DpAll K (cut O H) vs ds) (i : Nat) (x : Sl) (h : (ds.map Sl.dat)[i]? = some x) : SlOk K O A H vs[i]? x := by
  rw [List.getElem?_map] at h
  cases z : ds[i]? with
  | none => rw [z] at h; cases h
  | some d =>
    rw [z] at h
    cases h
    obtain ⟨v, e, q'⟩ := dpa_get q z
    exact ⟨v, e, q'⟩
theorem dat_own {ds : List D} {i : Nat} {es : List D} (h : (ds.map Sl.dat)[i]? = some (.own es)) : False := by
  rw [List.getElem?_map] at h
  cases z : ds[i]? with
  | none => rw [z] at h; cases h
  | some d => rw [z] at h; cases h
theorem dat_dic {ds : List D} {i : Nat} {b : Bd} (h : (ds.map Sl.dat)[i]? = some (.dic b)) : False := by
  rw [List.getElem?_map] at h
  cases z : ds[i]? with
  | none => rw [z] at h; cases h
  | some d => rw [z] at h; cases h
theorem sem_call {np : Nat} {F : FnM} {ta : TA} (sa : SemA c W ta fs) : SemE c W (tCallS (spF c.K c.T c.ca np F) (WE W) ta) (mCall np F fs) := by
  intro O A σ H s r Q w
  refine sa O A σ H s r _ (Wp.mono (Wp.bind w) ?_)
  intro ds s1 H1 _ f1 r1 w1 vs q
  by_cases hl : ds.length = np
  · rw [if_pos hl] at w1
    refine ⟨O, [], ds.map .dat, ⟨by rw [dpa_len q]; exact hl, by rw [List.length_map]; exact hl, fun a h => by simp at h, r1.alv, dat_slot q, fun i b h => (dat_dic h).elim, fun i j d1 d2 l h _ _ _ => (dat_own h).elim, r1.tb⟩, ?_⟩
    have gr : ∀ H' ss', AfterC c.K c.T O [] H1 H' vs ss' → Grow c H1 H' := fun H' ss' h => ⟨fun a o e n => h.keep a o e n (by simp), fun _ => h.tb⟩
    cases z : F (ds.map .dat) with
    | ok d ss' =>
      have w1 : Wp c W O A σ H1 (match F (ds.map .dat) with | .ok d _ => .ok d s1 | .err x _ => .err x s1 | .bad => .bad) (PV c O Q) := w1
      rw [z] at w1
      intro v H' h q'
      exact w1 H' ((gr H' ss' h).stp A) (r1.grow (gr H' ss' h)) v q'
    | err x ss' =>
      have w1 : Wp c W O A σ H1 (match F (ds.map .dat) with | .ok d _ => .ok d s1 | .err x _ => .err x s1 | .bad => .bad) (PV c O Q) := w1
      rw [z] at w1
      intro H' h
      exact w1 H' ((gr H' ss' h).stp A) (r1.grow (gr H' ss' h))
    | bad =>
      have w1 : Wp c W O A σ H1 (match F (ds.map .dat) with | .ok d _ => .ok d s1 | .err x _ => .err x s1 | .bad => .bad) (PV c O Q) := w1
      rw [z] at w1
      exact w1.elim
  · rw [if_neg hl] at w1
    exact w1.elim
theorem d_call {k np : Nat} {fa : Addr} {fd : FuncData} {ps : List Str} {F : FnM} {x : Str} {p : Pos} {es : List Expr} (Fk : FnOk X.prog X.w X.K X.mg X.base (L2.CX X.prog X.w) k fa fd ps (spF c.K c.T c.ca np F)) (hr : Room k X.A) (tk : Takes X W) (hm : X.mg x = some (.ref fa)) (hk : PySem.W.keepIn X.K (.ref fa) = true) (hb : Binds X.K fd ps [])
    (ha : DA c X W (a :: es) fs) (hg : Gl X x := by rfl) (hdb : (x == ("__debug__" : Str)) = false := by decide) (he : starEach (a :: es) X.env = (false, eval a X.env) :: starEach es X.env := by rfl) (hpl : (backTo pos (starEach es X.env)).any (·.1) = false := by rfl) :
    DE c X W (.Call (.Name x p) (a :: es) [] pos) (mCall np F fs) := by
  obtain ⟨ta, pa, sa⟩ := ha
  exact ⟨_, pe_callS Fk hr hg hm hk hb (fun σ => passAt tk σ) pa hdb he hpl, sem_call sa⟩
/-- arguments with one owned list among them -/
def SemAo (c : Cf) (W : WX) (ta : TA) (i : Nat) (fp fq : M (List D)) : Prop := ∀ O A σ H s, Rel c O A σ H s → ∀ l, σ[i]? = some (some (.ref l)) → ∀ Q : List V → Hp → Prop,
  Wp c W O A σ H ((fp s).bind fun ds s1 => (fq s1).bind fun es s2 => .ok (ds, es) s2) (fun de _ H' => ∀ vs us, DpAll c.K (cut O H') vs de.1 → DpAll c.K (cut O H') us de.2 → Q (vs ++ .ref l :: us) H') → ta σ H Q
def DAo (c : Cf) (X : Cx) (W : WX) (es : List Expr) (i : Nat) (fp fq : M (List D)) : Prop := ∃ ta, PA X es ta ∧ SemAo c W ta i fp fq
theorem dao_here (i : Nat) {x : Str} {px : Pos} {es : List Expr} (hr : DA c X W es fq) (hN : X.N[i]? = some x := by rfl) (hv : Vis X.env.scope x := by first | exact Or.inl rfl | exact Or.inr (Or.inl rfl) | exact Or.inr (Or.inr rfl)) (hd : (x == ("__debug__" : Str)) = false := by decide)
    (hcd : (x == ("__classdict__" : Str)) = false := by decide) (hs : starEach (.Name x px :: es) X.env = (false, eval (.Name x px) X.env) :: starEach es X.env := by rfl) : DAo c X W (.Name x px :: es) i mNil fq := by
  obtain ⟨ta, pa, sa⟩ := hr
  refine ⟨_, pa_cons (pe_var hN hv hd hcd) pa hs, ?_⟩
  intro O A σ H s r l hl Q w
  refine ⟨.ref l, hl, sa O A σ H s r _ ?_⟩
  have w : Wp c W O A σ H ((fq s).bind fun es s2 => .ok ([], es) s2) (fun de _ H' => ∀ vs us, DpAll c.K (cut O H') vs de.1 → DpAll c.K (cut O H') us de.2 → Q (vs ++ .ref l :: us) H') := w
  refine Wp.mono (Wp.bind w) ?_
  intro es s1 H1 _ f1 r1 w1 us q
  exact w1 H1 (Stp.refl _ _) r1 [] us .nil q
theorem dao_cons {i : Nat} {es : List Expr} (ha : DE c X W a f) (hr : DAo c X W es i fp fq) (hs : starEach (a :: es) X.env = (false, eval a X.env) :: starEach es X.env := by rfl) : DAo c X W (a :: es) i (mCons f fp) fq := by
  obtain ⟨te, pe, se⟩ := ha
  obtain ⟨ta, pa, sa⟩ := hr
  refine ⟨_, pa_cons pe pa hs, ?_⟩
  intro O A σ H s r l hl Q w
  unfold mCons at w
  cases z : f s with
  | err x s1 => rw [z] at w; exact se O A σ H s r _ (by rw [z]; exact w)
  | bad => rw [z] at w; exact w.elim
  | ok d s1 =>
    rw [z] at w
    refine se O A σ H s r _ ?_
    rw [z]
    intro H1 f1 r1 v q
    refine sa O A σ H1 s1 r1 l hl _ ?_
    cases z2 : fp s1 with
    | err x s2 =>
      have w : Wp c W O A σ H (((fp s1).bind fun ds s2 => .ok (d :: ds) s2).bind fun ds s1 => (fq s1).bind fun es s2 => .ok (ds, es) s2) (fun de _ H' => ∀ vs us, DpAll c.K (cut O H') vs de.1 → DpAll c.K (cut O H') us de.2 → Q (vs ++ .ref l :: us) H') := w
      rw [z2] at w
      exact Wp.fwd f1 w
    | bad =>
      have w : Wp c W O A σ H (((fp s1).bind fun ds s2 => .ok (d :: ds) s2).bind fun ds s1 => (fq s1).bind fun es s2 => .ok (ds, es) s2) (fun de _ H' => ∀ vs us, DpAll c.K (cut O H') vs de.1 → DpAll c.K (cut O H') us de.2 → Q (vs ++ .ref l :: us) H') := w
      rw [z2] at w
      exact w.elim
    | ok ds s2 =>
      have w : Wp c W O A σ H (((fp s1).bind fun ds s2 => .ok (d :: ds) s2).bind fun ds s1 => (fq s1).bind fun es s2 => .ok (ds, es) s2) (fun de _ H' => ∀ vs us, DpAll c.K (cut O H') vs de.1 → DpAll c.K (cut O H') us de.2 → Q (vs ++ .ref l :: us) H') := w
      rw [z2] at w
      have w : Wp c W O A σ H ((fq s2).bind fun es s2 => .ok (d :: ds, es) s2) (fun de _ H' => ∀ vs us, DpAll c.K (cut O H') vs de.1 → DpAll c.K (cut O H') us de.2 → Q (vs ++ .ref l :: us) H') := w
      show Wp c W O A σ H1 ((fq s2).bind fun es s2 => .ok (ds, es) s2) _
      cases z3 : fq s2 with
      | err x s3 => rw [z3] at w; exact Wp.fwd f1 w
      | bad => rw [z3] at w; exact w.elim
      | ok es s3 =>
        rw [z3] at w
        intro H2 f2 r2 vs us q1 q2
        exact w H2 (f1.trans f2) r2 (v :: vs) us (.cons (Sub.dp (f2.fwd r.sub) q) q1) q2
theorem sem_callO {np i : Nat} {F : FnM} {ta : TA} (sa : SemAo c W ta i fp fq) : SemE c W (tCallS (spF c.K c.T c.ca np F) (WE W) ta) (mCallO np i F fp fq) := by
  intro O A σ H s r Q w
  unfold mCallO at w
  cases z0 : ownAt s i with
  | none => rw [z0] at w; exact w.elim
  | some xs0 =>
    rw [z0] at w
    obtain ⟨l, us0, hσ, hl, _, _⟩ := rel_own r z0
    refine sa O A σ H s r l hσ _ ?_
    have key : ∀ ds es s2 H1, Rel c O A σ H1 s2 → Stp A H H1 → ∀ vs us, DpAll c.K (cut O H1) vs ds → DpAll c.K (cut O H1) us es →
        Wp c W O A σ H (match ownAt s2 i with
          | none => .bad
          | some xs => if ds.length + 1 + es.length = np then match F (ds.map .dat ++ .own xs :: es.map .dat) with
              | .ok d ss' => (match ownAt ss' ds.length with
                | some ys => .ok d (s2.set i (.own ys))
                | none => .bad)
              | .err x ss' => (match ownAt ss' ds.length with
                | some ys => .err x (s2.set i (.own ys))
                | none => .bad)
              | .bad => .bad
            else .bad) (PV c O Q) → spF c.K c.T c.ca np F (vs ++ .ref l :: us) H1 Q (WE W σ) := by
      intro ds es s2 H1 r2 f1 vs us q1 q2 w
      cases z : ownAt s2 i with
      | none => rw [z] at w; exact w.elim
      | some xs =>
        rw [z] at w
        obtain ⟨l', ws, hσ', _, hw, qw⟩ := rel_own r2 z
        rw [hσ] at hσ'
        cases hσ'
        by_cases hn : ds.length + 1 + es.length = np
        · have w : Wp c W O A σ H (if ds.length + 1 + es.length = np then match F (ds.map .dat ++ .own xs :: es.map .dat) with
              | .ok d ss' => (match ownAt ss' ds.length with
                | some ys => .ok d (s2.set i (.own ys))
                | none => .bad)
              | .err x ss' => (match ownAt ss' ds.length with
                | some ys => .err x (s2.set i (.own ys))
                | none => .bad)
              | .bad => .bad
            else .bad) (PV c O Q) := w
          rw [if_pos hn] at w
          have lv := dpa_len q1
          have lu := dpa_len q2
          -- an argument's place
          have pl : ∀ (j : Nat) (x : Sl), (ds.map Sl.dat ++ .own xs :: es.map Sl.dat)[j]? = some x → SlOk c.K O [l] H1 (vs ++ .ref l :: us)[j]? x := fun j x h => by
            by_cases h1 : j < ds.length
            · rw [List.getElem?_append_left (by rw [List.length_map]; exact h1)] at h
              rw [List.getElem?_append_left (by omega)]
              exact dat_slot q1 j x h
            · rw [List.getElem?_append_right (by rw [List.length_map]; omega), List.length_map] at h
              rw [List.getElem?_append_right (by omega), lv]
              cases hj : j - ds.length with
              | zero =>
                rw [hj] at h
                have h := Option.some.inj h
                subst h
                exact ⟨l, rfl, by simp, ws, hw, qw⟩
              | succ m =>
                rw [hj] at h
                exact dat_slot q2 m x (by exact h)
          have own_at : ∀ (j : Nat) (d1 : List D), (ds.map Sl.dat ++ .own xs :: es.map Sl.dat)[j]? = some (.own d1) → j = ds.length := fun j d1 h => by
            by_cases h1 : j < ds.length
            · rw [List.getElem?_append_left (by rw [List.length_map]; exact h1)] at h
              exact (dat_own h).elim
            · rw [List.getElem?_append_right (by rw [List.length_map]; omega), List.length_map] at h
              cases hj : j - ds.length with
              | zero => omega
              | succ m =>
                rw [hj] at h
                exact (dat_own (ds := es) (i := m) (es := d1) (by exact h)).elim
          have no_dic : ∀ (j : Nat) (b : Bd), (ds.map Sl.dat ++ .own xs :: es.map Sl.dat)[j]? = some (.dic b) → False := fun j b h => by
            by_cases h1 : j < ds.length
            · rw [List.getElem?_append_left (by rw [List.length_map]; exact h1)] at h
              exact dat_dic h
            · rw [List.getElem?_append_right (by rw [List.length_map]; omega), List.length_map] at h
              cases hj : j - ds.length with
              | zero => rw [hj] at h; cases h
              | succ m =>
                rw [hj] at h
                exact dat_dic (ds := es) (i := m) (b := b) (by exact h)
          refine ⟨O, [l], ds.map .dat ++ .own xs :: es.map .dat, ⟨by simp; omega, by simp; omega, fun a h => ?_, r2.alv, pl, no_dic, fun j m d1 d2 l' h1 h2 _ _ => (own_at j d1 h1).trans (own_at m d2 h2).symm, r2.tb⟩, ?_⟩
          · have e : a = l := by simpa using h
            rw [e]
            exact r.sub l hl
          have go : ∀ H' ss' ys, AfterC c.K c.T O [l] H1 H' (vs ++ .ref l :: us) ss' → ownAt ss' ds.length = some ys → Stp A H H' ∧ Rel c O A σ H' (s2.set i (.own ys)) := fun H' ss' ys h hy => by
            obtain ⟨l2, ws', e1, _, e3, e4⟩ := h.own _ _ (ownAt_some hy)
            rw [List.getElem?_append_right (by omega), lv, Nat.sub_self] at e1
            have e1 := Option.some.inj e1
            injection e1 with e1
            subst e1
            have ne : ∀ a, a ∉ A → a ∉ [l] := fun a n z => by
              have z : a = l := by simpa using z
              exact n (by rw [z]; exact hl)
            refine ⟨f1.trans fun a o n e nt => h.keep a o e nt (ne a n), ?_⟩
            exact r2.chg (ownAt_some z) hσ hl (fun a o n e nt => h.keep a o e nt (by simpa using n)) e3 e4 h.tb
          cases zf : F (ds.map .dat ++ .own xs :: es.map .dat) with
          | ok d ss' =>
            rw [zf] at w
            intro v H' h q'
            cases hy : ownAt ss' ds.length with
            | none =>
              have w : Wp c W O A σ H (match ownAt ss' ds.length with | some ys => .ok d (s2.set i (.own ys)) | none => .bad) (PV c O Q) := w
              rw [hy] at w; exact w.elim
            | some ys =>
              have w : Wp c W O A σ H (match ownAt ss' ds.length with | some ys => .ok d (s2.set i (.own ys)) | none => .bad) (PV c O Q) := w
              rw [hy] at w
              obtain ⟨g1, g2⟩ := go H' ss' ys h hy
              exact w H' g1 g2 v q'
          | err x ss' =>
            rw [zf] at w
            intro H' h
            cases hy : ownAt ss' ds.length with
            | none =>
              have w : Wp c W O A σ H (match ownAt ss' ds.length with | some ys => .err x (s2.set i (.own ys)) | none => .bad) (PV c O Q) := w
              rw [hy] at w; exact w.elim
            | some ys =>
              have w : Wp c W O A σ H (match ownAt ss' ds.length with | some ys => .err x (s2.set i (.own ys)) | none => .bad) (PV c O Q) := w
              rw [hy] at w
              obtain ⟨g1, g2⟩ := go H' ss' ys h hy
              exact w H' g1 g2
          | bad => rw [zf] at w; exact w.elim
        · have w : Wp c W O A σ H (if ds.length + 1 + es.length = np then match F (ds.map .dat ++ .own xs :: es.map .dat) with
              | .ok d ss' => (match ownAt ss' ds.length with
                | some ys => .ok d (s2.set i (.own ys))
                | none => .bad)
              | .err x ss' => (match ownAt ss' ds.length with
                | some ys => .err x (s2.set i (.own ys))
                | none => .bad)
              | .bad => .bad
            else .bad) (PV c O Q) := w
          rw [if_neg hn] at w
          exact w.elim
    cases zp : fp s with
    | err x s1 =>
      rw [zp] at w
      intro H' f' r'
      exact w H' f' r'
    | bad => rw [zp] at w; exact w.elim
    | ok ds s1 =>
      rw [zp] at w
      simp only [bind_ok] at w
      show Wp c W O A σ H ((fq s1).bind fun es s2 => .ok (ds, es) s2) _
      cases zq : fq s1 with
      | err x s2 =>
        rw [zq] at w
        intro H' f' r'
        exact w H' f' r'
      | bad => rw [zq] at w; exact w.elim
      | ok es s2 =>
        rw [zq] at w
        intro H1 f1 r2 vs us q1 q2
        exact key ds es s2 H1 r2 f1 vs us q1 q2 w
theorem d_callO {k np i : Nat} {fa : Addr} {fd : FuncData} {ps : List Str} {F : FnM} {x : Str} {p : Pos} {es : List Expr} (Fk : FnOk X.prog X.w X.K X.mg X.base (L2.CX X.prog X.w) k fa fd ps (spF c.K c.T c.ca np F)) (hr : Room k X.A) (tk : Takes X W) (hm : X.mg x = some (.ref fa)) (hk : PySem.W.keepIn X.K (.ref fa) = true) (hb : Binds X.K fd ps [])
    (ha : DAo c X W (a :: es) i fp fq) (hg : Gl X x := by rfl) (hdb : (x == ("__debug__" : Str)) = false := by decide) (he : starEach (a :: es) X.env = (false, eval a X.env) :: starEach es X.env := by rfl) (hpl : (backTo pos (starEach es X.env)).any (·.1) = false := by rfl) :
    DE c X W (.Call (.Name x p) (a :: es) [] pos) (mCallO np i F fp fq) := by
  obtain ⟨ta, pa, sa⟩ := ha
  exact ⟨_, pe_callS Fk hr hg hm hk hb (fun σ => passAt tk σ) pa hdb he hpl, sem_callO sa⟩

/-! ### try .. except X: -/
def tuB (c : Cf) (W : WX) (g : G) : TS := fun E σ H => ∃ O A s, Rel c O A σ H s ∧ WpS c W O H (g s) E
theorem ds_best {sts : List Stmt} (h : DSs c X W sts g) : PSs X sts (tuB c W g) := by
  obtain ⟨tu, pu, su⟩ := h
  refine ⟨fun pins s σ H E I hq => ?_⟩
  obtain ⟨O, A, st, r, w⟩ := hq
  exact pu.run pins s σ H E I (su O A σ H st r E w)
def noErr : Out → Out
  | .err _ _ => .bad
  | r => r
def sTry (exm : Str → Option Bool) (gb gs : G) : G := fun s => match gb s with
  | .err y s' => (match exm y with
    | some true => noErr (gs s')
    | some false => .err y s'
    | none => .bad)
  | r => r
theorem s_try {x : Str} {body suite : List Stmt} {b₀ : Stmt} {np pos' : Pos} {gb gs : G} {exm : Str → Option Bool} (hc : Names X x (.ref (c.ca x))) (hx : ∀ y b, exm y = some b → PySem.W.exmOne X.K (.ref (c.ca y)) (.ref (c.ca x)) = some b) (tk : Takes X W)
    (hb : ∀ (W' : WX) (pn : List (Addr × Obj)) (xe : Value → Shared → Prop), Takes (X.tr pn xe) W' → PassesOwn (model X.prog X.w) X.A X.env xe → DSs c (X.tr pn xe) W' body gb)
    (hsu : ∀ (a : Addr) (oe : Obj) (pn : List (Addr × Obj)), DSs c (X.suite a ((a, oe) :: pn)) Wno (b₀ :: suite) gs)
    (hs : X.stack = X.env :: X.outer := by rfl) (hf : X.env.frame = some X.env.locals := by rfl) :
    DS c X W (.Try body [.ExceptHandler (some (.Name x np)) none (b₀ :: suite) pos'] [] [] pos) (sTry exm gb gs) := by
  refine ⟨_, ps_try_only (tb := fun W' => tuB c W' gb) (ts := fun _ _ _ => tuB c Wno gs) hs hf hc tk (fun W' pn xe t p => ds_best (hb W' pn xe t p)) (fun a oe cls d pn _ _ => ds_best (hsu a oe pn)), ?_⟩
  intro O A σ H s r E w
  refine ⟨O, A, s, r, ?_⟩
  unfold sTry at w
  cases z : gb s with
  | nx s' => rw [z] at w; exact w
  | ret d s' => rw [z] at w; exact w
  | brk s' => rw [z] at w; exact w
  | ct s' => rw [z] at w; exact w
  | bad => rw [z] at w; exact w
  | err y s' =>
    rw [z] at w
    intro O' A' σ' H' fw r'
    cases e : exm y with
    | none =>
      have w : WpS c W O H (match exm y with | some true => noErr (gs s') | some false => .err y s' | none => .bad) E := w
      rw [e] at w; exact w.elim
    | some bv =>
      refine ⟨bv, hx y bv e, fun hb2 a ha => ?_, fun hb2 => ?_⟩
      · subst hb2
        have w : WpS c W O H (match exm y with | some true => noErr (gs s') | some false => .err y s' | none => .bad) E := w
        rw [e] at w
        have w : WpS c W O H (noErr (gs s')) E := w
        refine ⟨O', A', s', r', ?_⟩
        cases zg : gs s' with
        | nx s2 => rw [zg] at w; exact WpS.fwd (W := Wno) fw w
        | ret d s2 => rw [zg] at w; exact WpS.fwd (W := Wno) fw w
        | brk s2 => rw [zg] at w; exact WpS.fwd (W := Wno) fw w
        | ct s2 => rw [zg] at w; exact WpS.fwd (W := Wno) fw w
        | err _ _ => rw [zg] at w; exact w.elim
        | bad => rw [zg] at w; exact w.elim
      · subst hb2
        have w : WpS c W O H (match exm y with | some true => noErr (gs s') | some false => .err y s' | none => .bad) E := w
        rw [e] at w
        exact w O' A' σ' H' fw r'
end
end DL

namespace DL
open PySem PySem.Spec L2
/-! ### operations: several rules for one operator -/
theorem OpR.or {X : Cx} {f : Value → Value → Sem Value} {r r' : R2} (h : OpR X f r) (h' : OpR X f r') : OpR X f (fun x y H Q => r x y H Q ∨ r' x y H Q) := by
  intro pins s σ H x y v u Q I rx ry q
  rcases q with q | q
  · exact h pins s σ H x y v u Q I rx ry q
  · exact h' pins s σ H x y v u Q I rx ry q
section
variable {X : Cx} {c : Cf}
/-- lists, frozen ones too -/
def rCatP (K : PySem.W.Frag) : R2 := fun x y H Q => ∃ a b xs ys, x = .ref a ∧ y = .ref b ∧ SqL K H a xs ∧ SqL K H b ys ∧ xs.length + ys.length ≤ sizeLine ∧ ∀ p, H p = none → Q (.ref p) (upd H p (.lst (xs ++ ys)))
theorem op_catP : OpR X (binaryOp .Add) (rCatP X.K) := by
  intro pins s σ H x y v u Q I rx ry h
  obtain ⟨l, b, xs, zs, rfl, rfl, hH, hB, hz, q⟩ := h
  cases rx
  cases ry
  obtain ⟨its, r, pl, h1⟩ := I.list hH
  obtain ⟨its2, r2, pl2, h2⟩ := I.list hB
  obtain ⟨⟨cls, dd, data, sl⟩, n, ho, hc, hdd, hd⟩ := pl
  obtain ⟨⟨cls2, dd2, data2, sl2⟩, n2, ho2, hc2, hdd2, hd2⟩ := pl2
  simp only at hc hdd hd hc2 hdd2 hd2
  subst hc hdd hd hc2 hdd2 hd2
  have e : its.toArray ++ its2.toArray = (its ++ its2).toArray := by simp
  have l1 := r.length
  have l2 := r2.length
  refine concat_meets ⟨_, ho, rfl⟩ ⟨_, ho2, rfl⟩ noFill_list_add seq_list_add PySem.F.slot_list_add PySem.F.entry_list_add (PySem.F.args_list_add_2 _ _) (PyProof.Rows.list_addW l b its.toArray its2.toArray n n2 none none sl sl2 (by rw [List.size_toArray, List.size_toArray]; omega)) ⟨ho, ho2, ?_⟩
  rw [e]
  exact ⟨.ref _, _, I.lnew (t' := s.toks) (r.append r2) (by rw [List.length_append]; omega), rfl, q _ I.fresh⟩
theorem op_str_add : OpR X (binaryOp .Add) (fun x y H Q => ∃ i j, x = .str i ∧ y = .str j ∧ i.length + j.length ≤ sizeLine ∧ Q (.str (i ++ j)) H) := op_add_str
/-- + -/
def addD : D → D → Option D
  | .int i, .int j => some (.int (i + j))
  | .str x, .str y => if x.length + y.length ≤ sizeLine then some (.str (x ++ y)) else none
  | .list xs, .list ys => if xs.length + ys.length ≤ sizeLine then some (.list (xs ++ ys)) else none
  | .tuple xs, .tuple ys => if xs.length + ys.length ≤ sizeLine then some (.tuple (xs ++ ys)) else none
  | _, _ => none
def rAddA (K : PySem.W.Frag) : R2 := fun x y H Q => (rI0 (fun i j => .int (i + j)) x y H Q ∨ (∃ i j, x = .str i ∧ y = .str j ∧ i.length + j.length ≤ sizeLine ∧ Q (.str (i ++ j)) H)) ∨ (rCatP K x y H Q ∨ rCatA K x y H Q)
theorem op_addA : OpR X (binaryOp .Add) (rAddA X.K) := OpR.or (OpR.or op_add op_add_str) (OpR.or op_catP op_catA)
theorem o_add (hK : c.K = X.K) : Oq2 c (rAddA X.K) addD := by
  intro O H x y v w d al e q1 q2 Q k
  cases v with
  | int i =>
    cases w with
    | int j =>
      have e := Option.some.inj (show some (PyData.int (i + j)) = some d from e)
      subst e
      exact .inl (.inl ⟨i, j, dp_int q1, dp_int q2, k _ H (Grow.refl _ _) (.int _)⟩)
    | _ => cases e
  | str i =>
    cases w with
    | str j =>
      have e : (if i.length + j.length ≤ sizeLine then some (PyData.str (i ++ j)) else none) = some d := e
      split at e
      · rename_i hl
        have e := Option.some.inj e
        subst e
        exact .inl (.inr ⟨i, j, dp_str q1, dp_str q2, hl, k _ H (Grow.refl _ _) (.str _)⟩)
      · cases e
    | _ => cases e
  | list ds =>
    cases w with
    | list es =>
      have e : (if ds.length + es.length ≤ sizeLine then some (PyData.list (ds ++ es)) else none) = some d := e
      split at e
      · rename_i hl
        have e := Option.some.inj e
        subst e
        obtain ⟨a, xs, rfl, h1, g1⟩ := q1
        obtain ⟨b, ys, rfl, h2, g2⟩ := q2
        refine .inr (.inl ⟨a, b, xs, ys, rfl, rfl, hK ▸ h1, hK ▸ h2, by rw [dpa_len g1, dpa_len g2]; exact hl, fun p hp => ?_⟩)
        exact k _ _ (Grow.new hp) (dp_newL hp (fresh_of al hp) (dpa_app g1 g2))
      · cases e
    | _ => cases e
  | tuple ds =>
    cases w with
    | tuple es =>
      have e : (if ds.length + es.length ≤ sizeLine then some (PyData.tuple (ds ++ es)) else none) = some d := e
      split at e
      · rename_i hl
        have e := Option.some.inj e
        subst e
        obtain ⟨a, xs, rfl, h1, g1⟩ := dp_tup q1
        obtain ⟨b, ys, rfl, h2, g2⟩ := dp_tup q2
        have l1 := dpa_len g1
        have l2 := dpa_len g2
        refine .inr (.inr ⟨a, b, xs, ys, rfl, rfl, hK ▸ (Sub.cut O H).sqt h1, hK ▸ (Sub.cut O H).sqt h2, by omega, fun e1 => ?_, fun _ e2 => ?_, fun _ _ p hp => ?_⟩)
        · subst e1
          have : ds = [] := List.eq_nil_of_length_eq_zero l1.symm
          subst this
          exact k _ H (Grow.refl _ _) (.tup h2 g2)
        · subst e2
          have : es = [] := List.eq_nil_of_length_eq_zero l2.symm
          subst this
          rw [List.append_nil] at k
          exact k _ H (Grow.refl _ _) (.tup h1 g1)
        · exact k _ _ (Grow.new hp) (dp_newT hp (fresh_of al hp) (dpa_app g1 g2))
      · cases e
    | _ => cases e
  | none => cases e
  | bool _ => cases e
  | dict _ => cases e
/-- ints -/
def subD : D → D → Option D
  | .int i, .int j => some (.int (i - j))
  | _, _ => none
theorem intop {r : R2} {op : D → D → Option D} (h : ∀ i j d, op (.int i) (.int j) = some d → ∀ H Q, (∀ z, (∀ G, Dp c.K G z d) → Q z H) → r (.int i) (.int j) H Q) (h' : ∀ v w d, op v w = some d → ∃ i j, v = .int i ∧ w = .int j) : Oq2 c r op := by
  intro O H x y v w d al e q1 q2 Q k
  obtain ⟨i, j, rfl, rfl⟩ := h' v w d e
  have e1 := dp_int q1
  have e2 := dp_int q2
  subst e1
  subst e2
  exact h i j d e H Q fun z hz => k z H (Grow.refl _ _) (hz _)
theorem o_sub : Oq2 c (rI0 fun i j => .int (i - j)) subD := intop (fun i j d e H Q k => ⟨i, j, rfl, rfl, k _ fun G => by
    have e := Option.some.inj (show some (PyData.int (i - j)) = some d from e)
    subst e
    exact .int _⟩) (fun v w d e => by cases v <;> cases w <;> first | exact ⟨_, _, rfl, rfl⟩ | cases e)
/-- //, % by a positive divisor -/
def fdivD : D → D → Option D
  | .int i, .int j => if btw 0 1073741824 j = true then some (.int (i / j)) else none
  | _, _ => none
def modD : D → D → Option D
  | .int i, .int j => if 0 < j then some (.int (i % j)) else none
  | _, _ => none
theorem o_fdiv : Oq2 c (rI CDiv fun i j => .int (i / j)) fdivD := intop (fun i j d e H Q k => by
    have e : (if btw 0 1073741824 j = true then some (PyData.int (i / j)) else none) = some d := e
    split at e
    · rename_i hj
      have e := Option.some.inj e
      subst e
      exact ⟨i, j, rfl, rfl, btw_iff.mp hj, k _ fun G => .int _⟩
    · cases e) (fun v w d e => by cases v <;> cases w <;> first | exact ⟨_, _, rfl, rfl⟩ | cases e)
theorem o_mod : Oq2 c (rI (fun _ j => 0 < j) fun i j => .int (i % j)) modD := intop (fun i j d e H Q k => by
    have e : (if 0 < j then some (PyData.int (i % j)) else none) = some d := e
    split at e
    · rename_i hj
      have e := Option.some.inj e
      subst e
      exact ⟨i, j, rfl, rfl, hj, k _ fun G => .int _⟩
    · cases e) (fun v w d e => by cases v <;> cases w <;> first | exact ⟨_, _, rfl, rfl⟩ | cases e)
def powD : D → D → Option D
  | .int i, .int j => if 0 ≤ j ∧ j ≤ 1000000 ∧ i.natAbs < 2 ^ 64 then some (.int (i ^ j.toNat)) else none
  | _, _ => none
theorem o_pow : Oq2 c (rI CPow fun i j => .int (i ^ j.toNat)) powD := intop (fun i j d e H Q k => by
    have e : (if 0 ≤ j ∧ j ≤ 1000000 ∧ i.natAbs < 2 ^ 64 then some (PyData.int (i ^ j.toNat)) else none) = some d := e
    split at e
    · rename_i hj
      have e := Option.some.inj e
      subst e
      exact ⟨i, j, rfl, rfl, hj, k _ fun G => .int _⟩
    · cases e) (fun v w d e => by cases v <;> cases w <;> first | exact ⟨_, _, rfl, rfl⟩ | cases e)
theorem rep_size (a : Array Nat) : ∀ (k : Nat) (acc : Array Nat), ((List.replicate k a).foldl (· ++ ·) acc).size = acc.size + k * a.size
  | 0, acc => by simp
  | k + 1, acc => by
    rw [List.replicate_succ, List.foldl_cons, rep_size a k, Array.size_append, Nat.succ_mul]
    omega
/-- times: ints, a text or a tuple times a number -/
theorem op_str_mul : OpR X (binaryOp .Mult) (fun x y H Q => ∃ z k, x = .str z ∧ y = .int k ∧ 2 ≤ k ∧ k ≤ 1000 ∧ 0 < z.length ∧ z.length ≤ 1000 ∧ Q (.str ⟨(List.replicate k.toNat z.cps).foldl (· ++ ·) #[]⟩) H) := by
  intro pins s σ H x y v u Q I rx ry h
  obtain ⟨z, k, rfl, rfl, h1, h2, h3, h4, q⟩ := h
  obtain ⟨t, rfl⟩ := rx
  obtain ⟨t', rfl⟩ := ry
  have hk : (k == 1 || z.length == 0) = false := by
    rw [Bool.or_eq_false_iff]
    exact ⟨beq_eq_false_iff_ne.mpr (by omega), beq_eq_false_iff_ne.mpr (by omega)⟩
  have hm : z.length * k.toNat ≤ 1000000 := by
    have : z.length * k.toNat ≤ 1000 * 1000 := Nat.mul_le_mul h4 (by omega)
    omega
  have hz : z.length * k.toNat ≤ sizeLine := by rw [sizeLine_eq]; omega
  refine PySem.P.mul_str ?_ (fun _ _ => ?_) (fun _ _ => ?_) ?_
  · rw [decide_eq_false (by omega), decide_eq_false (by omega)] <;> rfl
  · have e : ((2 : Int) ^ 63 - 1) / k ≥ 9223372036854775 := by
      have h5 : (9223372036854775 : Int) ≤ (9223372036854775807 : Int) / k := (Int.le_ediv_iff_mul_le (by omega)).mpr (by omega)
      exact h5
    have h6 : ((z.length : Nat) : Int) ≤ 1000 := by omega
    omega
  · first
      | exact decide_eq_false (by omega)
      | (unfold tooLong; exact decide_eq_false (by rw [sizeLine_eq] at *; omega))
      | (unfold tooLong; simp; omega)
  · rw [if_neg (by omega), if_neg (by rw [hk]; exact Bool.false_ne_true)]
    refine ⟨?_, .str _, H, I.tok _, ⟨_, rfl⟩, q⟩
    show ((List.replicate k.toNat z.cps).foldl (· ++ ·) #[]).size ≤ sizeLine
    rw [rep_size]
    have e : z.cps.size = z.length := rfl
    rw [e]
    simp only [Array.size_empty, Nat.zero_add]
    rw [Nat.mul_comm]
    exact hz
theorem tuple_mulS (l : Addr) (items : Array Value) (n : Nat) (dd : Option Addr) (sl : Array (Option Value)) (x : Int) (u : Tok) (c0 : (decide (x < -(2 ^ 63)) || decide (x ≥ 2 ^ 63)) = false) (c1 : (items.isEmpty || x == 1) = true) :
    Meets (Builtin.«tuple.__mul__» ⟨[.ref l, .int x u], []⟩) (fun _ R s => s.heap.get? l = some { cls := .type "tuple", dict := dd, data := .seq items n, slots := sl } ∧ R (.ok (.ret (Value.ref l))) s) :=
  .of_wp fun prog w A R s h => by
    obtain ⟨hp, g, d, tk, os⟩ := s
    obtain ⟨hl, h⟩ := h
    have f1 := AutoSeq1.idx_int
    wp_walk using PySem.AutoSeq1.wpAny_loadPart' hl
    repeat (first
      | (refine wpAny_ite_false (decide_eq_false (by rw [c0]; exact Bool.false_ne_true)) ?_; wp_walk using PySem.AutoSeq1.wpAny_loadPart' hl)
      | (refine wpAny_ite_true (decide_eq_true c1) ?_; wp_walk using PySem.AutoSeq1.wpAny_loadPart' hl))
    exact ⟨_, rfl, h⟩
/-- t * 1, () * k: the same tuple -/
def rRepS (K : PySem.W.Frag) : R2 := fun x y H Q => ∃ l k xs, x = .ref l ∧ y = .int k ∧ SqT K H l xs ∧ (xs = [] ∨ k = 1) ∧ 0 ≤ k ∧ k ≤ 1000 ∧ Q (.ref l) H
theorem op_repS : OpR X (binaryOp .Mult) (rRepS X.K) := by
  intro pins s σ H x y v u Q I rx ry h
  obtain ⟨l, k, xs, rfl, rfl, hT, hne, h1, h2, q⟩ := h
  cases rx
  obtain ⟨t, rfl⟩ := ry
  obtain ⟨its, r, ⟨⟨cls, dd, data, sl⟩, ho, hc, n, hd⟩, hs⟩ := I.tuple hT
  simp only at hc hd
  subst hc hd
  have hle : its.length = xs.length := r.length.symm
  have c1 : (its.toArray.isEmpty || k == 1) = true := by
    rcases hne with e | e
    · rw [e] at hle
      have : its = [] := List.eq_nil_of_length_eq_zero hle
      subst this
      rfl
    · subst e
      simp
  have c0 : (decide (k < -(2 ^ 63)) || decide (k ≥ 2 ^ 63)) = false := by
    rw [decide_eq_false (by omega), decide_eq_false (by omega)] <;> rfl
  refine wpAny_binaryOp_repeat_ref (T := "tuple") (U := "int") (by decide) ⟨_, ho, rfl⟩ (fun s' => typeIs_int s' k t) noFill_tuple_mul PySem.F.fills_int_mul PySem.F.slot_int_rmul repeat_tuple PySem.F.slot_int_index.lookup
    (call_meets PySem.F.slot_int_rmul (typeIs_int s k t) PySem.F.entry_int_rmul (PySem.F.args_int_rmul_2 _ _) (int_rmul_tuple k t l its.toArray n dd sl)
      ⟨ho, rfl, ⟨_, ho, rfl⟩, call_meets PySem.F.slot_tuple_mul ⟨_, ho, rfl⟩ PySem.F.entry_tuple_mul (PySem.F.args_tuple_mul_2 _ _) (tuple_mulS l its.toArray n dd sl k t c0 c1) ⟨ho, ?_⟩⟩)
  exact ⟨.ref l, H, I, rfl, q⟩
def repS (k : Nat) (z : Str) : Str := ⟨(List.replicate k z.cps).foldl (· ++ ·) #[]⟩
def mulD : D → D → Option D
  | .int i, .int j => if (btw (-(2 ^ 64)) (2 ^ 64) i || btw (-(2 ^ 64)) (2 ^ 64) j) = true then some (.int (i * j)) else none
  | .str z, .int k => if 2 ≤ k ∧ k ≤ 1000 ∧ 0 < z.length ∧ z.length ≤ 1000 then some (.str (repS k.toNat z)) else none
  | .tuple ds, .int k => if 0 ≤ k ∧ k ≤ 1000 ∧ ds.length ≤ 1000 then (if ds.isEmpty = true ∨ k ≠ 0 then some (.tuple (List.replicate k.toNat ds).flatten) else none) else none
  | _, _ => none
end
end DL

namespace DL
open PySem PySem.Spec L2
section
variable {X : Cx} {c : Cf}
def rMulA (K : PySem.W.Frag) : R2 := fun x y H Q => (rI CMul (fun i j => .int (i * j)) x y H Q ∨ (∃ z k, x = .str z ∧ y = .int k ∧ 2 ≤ k ∧ k ≤ 1000 ∧ 0 < z.length ∧ z.length ≤ 1000 ∧ Q (.str ⟨(List.replicate k.toNat z.cps).foldl (· ++ ·) #[]⟩) H)) ∨ (rRepS K x y H Q ∨ rRepT K x y H Q)
theorem op_mulA : OpR X (binaryOp .Mult) (rMulA X.K) := OpR.or (OpR.or op_mul op_str_mul) (OpR.or op_repS op_repT)
theorem o_mul (hK : c.K = X.K) : Oq2 c (rMulA X.K) mulD := by
  intro O H x y v w d al e q1 q2 Q k
  cases v with
  | int i =>
    cases w with
    | int j =>
      have e : (if (btw (-(2 ^ 64)) (2 ^ 64) i || btw (-(2 ^ 64)) (2 ^ 64) j) = true then some (PyData.int (i * j)) else none) = some d := e
      split at e
      · rename_i hj
        have e := Option.some.inj e
        subst e
        exact .inl (.inl ⟨i, j, dp_int q1, dp_int q2, (Bool.or_eq_true_iff.mp hj).imp btw_iff.mp btw_iff.mp, k _ H (Grow.refl _ _) (.int _)⟩)
      · cases e
    | _ => cases e
  | str z =>
    cases w with
    | int j =>
      have e : (if 2 ≤ j ∧ j ≤ 1000 ∧ 0 < z.length ∧ z.length ≤ 1000 then some (PyData.str (repS j.toNat z)) else none) = some d := e
      split at e
      · rename_i hj
        have e := Option.some.inj e
        subst e
        exact .inl (.inr ⟨z, j, dp_str q1, dp_int q2, hj.1, hj.2.1, hj.2.2.1, hj.2.2.2, k _ H (Grow.refl _ _) (.str _)⟩)
      · cases e
    | _ => cases e
  | tuple ds =>
    cases w with
    | int j =>
      have e : (if 0 ≤ j ∧ j ≤ 1000 ∧ ds.length ≤ 1000 then (if ds.isEmpty = true ∨ j ≠ 0 then some (PyData.tuple (List.replicate j.toNat ds).flatten) else none) else none) = some d := e
      split at e
      · rename_i hj
        split at e
        · rename_i hj2
          have e := Option.some.inj e
          subst e
          obtain ⟨a, xs, rfl, h1, g1⟩ := dp_tup q1
          have e2 := dp_int q2
          subst e2
          have l1 := dpa_len g1
          by_cases hx : xs = [] ∨ j = 1
          · refine .inr (.inl ⟨a, j, xs, rfl, rfl, hK ▸ (Sub.cut O H).sqt h1, hx, hj.1, hj.2.1, k _ H (Grow.refl _ _) ?_⟩)
            rcases hx with hx | hx
            · subst hx
              have e3 : ds = [] := List.eq_nil_of_length_eq_zero l1.symm
              subst e3
              have e4 : (List.replicate j.toNat ([] : List PyData)).flatten = [] := by simp
              rw [e4]
              exact .tup h1 .nil
            · subst hx
              have e4 : (List.replicate (1 : Int).toNat ds).flatten = ds := by simp
              rw [e4]
              exact .tup h1 g1
          · rw [not_or] at hx
            have hd : ds.isEmpty = false := by
              cases ds with
              | nil => exact absurd (List.eq_nil_of_length_eq_zero l1) hx.1
              | cons _ _ => rfl
            have h0 : j ≠ 0 := by
              rcases hj2 with z | z
              · rw [hd] at z; cases z
              · exact z
            refine .inr (.inr ⟨a, j, xs, rfl, rfl, hK ▸ (Sub.cut O H).sqt h1, hx.1, by omega, hj.2.1, by omega, fun p hp => ?_⟩)
            exact k _ _ (Grow.new hp) (dp_newT hp (fresh_of al hp) (dpa_rep g1 _))
        · cases e
      · cases e
    | _ => cases e
  | none => cases e
  | bool _ => cases e
  | list _ => cases e
  | dict _ => cases e

/-! ### equality -/
/-- two plain values that the quick rule serves -/
def scalD : D → D → Bool
  | .none, .none => true | .none, .int _ => true | .int _, .none => true | .none, .bool _ => true | .bool _, .none => true | .none, .str _ => true | .str _, .none => true
  | .int _, .int _ => true | .bool _, .bool _ => true | .str _, .str _ => true
  | .int _, .str _ => true | .str _, .int _ => true | .bool _, .str _ => true | .str _, .bool _ => true
  | _, _ => false
def eqD (d e : D) : Option D := if scalD d e = true ∨ (SeqAt.shaped d = true ∧ SeqAt.shaped e = true) then some (.bool (PyData.eqv d e)) else none
def neD (d e : D) : Option D := if scalD d e = true ∨ (SeqAt.shaped d = true ∧ SeqAt.shaped e = true) then some (.bool (!PyData.eqv d e)) else none
def rEqA (K : PySem.W.Frag) : R2 := fun x y H Q => rEq x y H Q ∨ rEqD K x y H Q
def rNeA (K : PySem.W.Frag) : R2 := fun x y H Q => rNe x y H Q ∨ rNeD K x y H Q
theorem op_eqA {k : Nat} (hr : Room k X.A) : OpR X (compareOp .Eq) (rEqA X.K) := OpR.or op_eq (op_eqD hr.units)
theorem op_neA {k : Nat} (hr : Room k X.A) : OpR X (compareOp .NotEq) (rNeA X.K) := OpR.or op_ne (op_neD hr.units)
theorem scal_of {K : PySem.W.Frag} {G : Hp} {x y : V} {d e : D} (h : scalD d e = true) (q1 : Dp K G x d) (q2 : Dp K G y e) : scal x y = true ∧ decide (x = y) = PyData.eqv d e := by
  cases d <;> cases e <;> first
    | (exact Bool.noConfusion (show false = true from h))
    | (cases q1; cases q2; refine ⟨rfl, ?_⟩; first | rfl | (simp [PyData.eqv]; done) | (simp only [PyData.eqv, V.bl.injEq, V.int.injEq, V.str.injEq]; exact (Bool.beq_eq_decide_eq _ _).symm))
theorem dq_dp {K : PySem.W.Frag} {O : List Addr} {H : Hp} {v : V} {d : D} (h : Dq K O H v d) : Dp K H v d := by
  cases d with
  | list ds =>
    obtain ⟨a, xs, rfl, h1, h2⟩ := h
    exact .lst h1 (Sub.dpa (Sub.cut O H) h2)
  | none => exact (Sub.cut O H).dp h
  | bool _ => exact (Sub.cut O H).dp h
  | int _ => exact (Sub.cut O H).dp h
  | str _ => exact (Sub.cut O H).dp h
  | tuple _ => exact (Sub.cut O H).dp h
  | dict _ => exact (Sub.cut O H).dp h
theorem o_eq (hK : c.K = X.K) : Oq2 c (rEqA X.K) eqD := by
  intro O H x y v w d al e q1 q2 Q k
  have q1 := dq_dp q1
  have q2 := dq_dp q2
  unfold eqD at e
  split at e
  · rename_i h
    have e := Option.some.inj e
    subst e
    rcases h with h | ⟨h1, h2⟩
    · obtain ⟨z1, z2⟩ := scal_of h q1 q2
      exact .inl ⟨z1, by rw [z2]; exact k _ H (Grow.refl _ _) (.bl _)⟩
    · exact .inr ⟨v, w, hK ▸ q1.old (nod_shaped h1), hK ▸ q2.old (nod_shaped h2), h1, h2, k _ H (Grow.refl _ _) (.bl _)⟩
  · cases e
theorem o_ne (hK : c.K = X.K) : Oq2 c (rNeA X.K) neD := by
  intro O H x y v w d al e q1 q2 Q k
  have q1 := dq_dp q1
  have q2 := dq_dp q2
  unfold neD at e
  split at e
  · rename_i h
    have e := Option.some.inj e
    subst e
    rcases h with h | ⟨h1, h2⟩
    · obtain ⟨z1, z2⟩ := scal_of h q1 q2
      exact .inl ⟨z1, by rw [z2]; exact k _ H (Grow.refl _ _) (.bl _)⟩
    · exact .inr ⟨v, w, hK ▸ q1.old (nod_shaped h1), hK ▸ q2.old (nod_shaped h2), h1, h2, k _ H (Grow.refl _ _) (.bl _)⟩
  · cases e
/-! ### order of numbers and texts -/
def ltS (x y : Str) : Bool := decide (x.cps.toList < y.cps.toList)
def ltD : D → D → Option D
  | .int i, .int j => some (.bool (ltI i j))
  | .str x, .str y => some (.bool (ltS x y))
  | _, _ => none
def leD : D → D → Option D
  | .int i, .int j => some (.bool (!ltI j i))
  | .str x, .str y => some (.bool (!ltS y x))
  | _, _ => none
def gtD : D → D → Option D
  | .int i, .int j => some (.bool (ltI j i))
  | .str x, .str y => some (.bool (ltS y x))
  | _, _ => none
def geD : D → D → Option D
  | .int i, .int j => some (.bool (!ltI i j))
  | .str x, .str y => some (.bool (!ltS x y))
  | _, _ => none
def rOrd (p : Int → Int → Bool) (g : Str → Str → Bool) : R2 := fun x y H Q => rI0 (fun i j => .bl (p i j)) x y H Q ∨ ∃ i j, x = .str i ∧ y = .str j ∧ Q (.bl (g i j)) H
theorem o_ord {p : Int → Int → Bool} {g : Str → Str → Bool} {op : D → D → Option D} (h1 : ∀ i j, op (.int i) (.int j) = some (.bool (p i j))) (h2 : ∀ i j, op (.str i) (.str j) = some (.bool (g i j)))
    (h3 : ∀ v w d, op v w = some d → (∃ i j, v = .int i ∧ w = .int j) ∨ ∃ i j, v = .str i ∧ w = .str j) : Oq2 c (rOrd p g) op := by
  intro O H x y v w d al e q1 q2 Q k
  rcases h3 v w d e with ⟨i, j, rfl, rfl⟩ | ⟨i, j, rfl, rfl⟩
  · rw [h1] at e
    have e := Option.some.inj e
    subst e
    exact .inl ⟨i, j, dp_int q1, dp_int q2, k _ H (Grow.refl _ _) (.bl _)⟩
  · rw [h2] at e
    have e := Option.some.inj e
    subst e
    exact .inr ⟨i, j, dp_str q1, dp_str q2, k _ H (Grow.refl _ _) (.bl _)⟩
theorem op_ltA : OpR X (compareOp .Lt) (rOrd (fun i j => decide (i < j)) ltS) := OpR.or op_lt op_lt_str
theorem op_leA : OpR X (compareOp .LtE) (rOrd (fun i j => decide (i ≤ j)) fun x y => !ltS y x) := OpR.or op_le op_le_str
theorem op_gtA : OpR X (compareOp .Gt) (rOrd (fun i j => decide (j < i)) fun x y => ltS y x) := OpR.or op_gt op_gt_str
theorem op_geA : OpR X (compareOp .GtE) (rOrd (fun i j => decide (j ≤ i)) fun x y => !ltS x y) := OpR.or op_ge op_ge_str
theorem o_lt : Oq2 c (rOrd (fun i j => decide (i < j)) ltS) ltD := o_ord (fun i j => by show some (PyData.bool (ltI i j)) = _; rw [ltI_eq]) (fun _ _ => rfl) fun v w d e => by cases v <;> cases w <;> first | exact .inl ⟨_, _, rfl, rfl⟩ | exact .inr ⟨_, _, rfl, rfl⟩ | cases e
theorem o_le : Oq2 c (rOrd (fun i j => decide (i ≤ j)) fun x y => !ltS y x) leD := o_ord (fun i j => by show some (PyData.bool (!ltI j i)) = _; rw [leI_eq]) (fun _ _ => rfl) fun v w d e => by cases v <;> cases w <;> first | exact .inl ⟨_, _, rfl, rfl⟩ | exact .inr ⟨_, _, rfl, rfl⟩ | cases e
theorem o_gt : Oq2 c (rOrd (fun i j => decide (j < i)) fun x y => ltS y x) gtD := o_ord (fun i j => by show some (PyData.bool (ltI j i)) = _; rw [ltI_eq]) (fun _ _ => rfl) fun v w d e => by cases v <;> cases w <;> first | exact .inl ⟨_, _, rfl, rfl⟩ | exact .inr ⟨_, _, rfl, rfl⟩ | cases e
theorem o_ge : Oq2 c (rOrd (fun i j => decide (j ≤ i)) fun x y => !ltS x y) geD := o_ord (fun i j => by show some (PyData.bool (!ltI i j)) = _; rw [leI_eq]) (fun _ _ => rfl) fun v w d e => by cases v <;> cases w <;> first | exact .inl ⟨_, _, rfl, rfl⟩ | exact .inr ⟨_, _, rfl, rfl⟩ | cases e
/-! ### is None -/
def isNon : D → Bool
  | .none => true
  | _ => false
def isNone : D → D → Option D
  | d, .none => some (.bool (isNon d))
  | _, _ => none
def notNone : D → D → Option D
  | d, .none => some (.bool (!isNon d))
  | _, _ => none
theorem non_dec {K : PySem.W.Frag} {G : Hp} {x : V} {d : D} (q : Dp K G x d) : decide (x = .non) = isNon d := by
  cases q <;> rfl
theorem o_isN : Op2 c (fun x y H Q => y = .non ∧ Q (.bl (decide (x = .non))) H) isNone := by
  intro O H x y v w d al e q1 q2 Q k
  cases w with
  | none =>
    refine ⟨dp_non q2, ?_⟩
    rw [non_dec q1]
    have e := Option.some.inj (show some (PyData.bool (isNon v)) = some d from e)
    subst e
    exact k _ H (Grow.refl _ _) (.bl _)
  | _ => cases v <;> cases e
theorem o_notN : Op2 c (fun x y H Q => y = .non ∧ Q (.bl (!decide (x = .non))) H) notNone := by
  intro O H x y v w d al e q1 q2 Q k
  cases w with
  | none =>
    refine ⟨dp_non q2, ?_⟩
    rw [non_dec q1]
    have e := Option.some.inj (show some (PyData.bool (!isNon v)) = some d from e)
    subst e
    exact k _ H (Grow.refl _ _) (.bl _)
  | _ => cases v <;> cases e
/-! ### in, not in: flat items -/
def flatD : D → Bool
  | .none => true
  | .bool _ => true
  | .int _ => true
  | .str _ => true
  | _ => false
def inD (d e : D) : Option D := match items e with
  | some ds => if flatD d = true ∧ ds.all flatD = true then some (.bool (ds.any fun z => PyData.eqv z d)) else none
  | none => none
def notInD (d e : D) : Option D := match items e with
  | some ds => if flatD d = true ∧ ds.all flatD = true then some (.bool (!ds.any fun z => PyData.eqv z d)) else none
  | none => none
theorem flat_of {K : PySem.W.Frag} {G : Hp} {x : V} {d : D} (q : Dp K G x d) (h : flatD d = true) : flatV x = true := by
  cases q <;> first | rfl | cases h
theorem flats_of {K : PySem.W.Frag} {G : Hp} : ∀ {ds : List D} {xs : List V}, DpAll K G xs ds → ds.all flatD = true → xs.all flatV = true
  | _, _, .nil, _ => rfl
  | _, _, .cons q r, h => by
    rw [List.all_cons, Bool.and_eq_true] at h ⊢
    exact ⟨flat_of q h.1, flats_of r h.2⟩
theorem eqV_of {K : PySem.W.Frag} {G : Hp} {x y : V} {d e : D} (q1 : Dp K G x d) (q2 : Dp K G y e) (h1 : flatD d = true) (h2 : flatD e = true) : eqV x y = PyData.eqv d e := by
  cases d <;> first
    | (exact Bool.noConfusion (show false = true from h1))
    | (cases e <;> first
        | (exact Bool.noConfusion (show false = true from h2))
        | (cases q1; cases q2; simp [eqV, PyData.eqv]))
theorem inV_of {K : PySem.W.Frag} {G : Hp} {x : V} {d : D} (q : Dp K G x d) (h : flatD d = true) : ∀ {ds : List D} {xs : List V}, DpAll K G xs ds → ds.all flatD = true → inV x xs = ds.any fun z => PyData.eqv z d
  | _, _, .nil, _ => rfl
  | _, _, .cons q1 r, h1 => by
    rw [List.all_cons, Bool.and_eq_true] at h1
    unfold inV
    rw [List.any_cons, List.any_cons, eqV_of q1 q h1.1 h]
    congr 1
    exact inV_of q h r h1.2
theorem dq_items {K : PySem.W.Frag} {O : List Addr} {H : Hp} {y : V} {e : D} {ds : List D} (q : Dq K O H y e) (h : items e = some ds) : ∃ p xs, y = .ref p ∧ (SqL K H p xs ∨ SqT K H p xs) ∧ DpAll K (cut O H) xs ds := by
  cases e with
  | list es =>
    have h := Option.some.inj (show some es = some ds from h)
    subst h
    obtain ⟨a, xs, rfl, h1, h2⟩ := q
    exact ⟨a, xs, rfl, .inl h1, h2⟩
  | tuple es =>
    have h := Option.some.inj (show some es = some ds from h)
    subst h
    obtain ⟨a, xs, rfl, h1, h2⟩ := dp_tup q
    exact ⟨a, xs, rfl, .inr ((Sub.cut O H).sqt h1), h2⟩
  | none => cases h
  | bool _ => cases h
  | int _ => cases h
  | str _ => cases h
  | dict _ => cases h
theorem dq_flat {K : PySem.W.Frag} {O : List Addr} {H : Hp} {v : V} {d : D} (h : Dq K O H v d) (f : flatD d = true) : Dp K (cut O H) v d := by
  cases d <;> first | exact h | cases f
theorem o_in (hK : c.K = X.K) : Oq2 c (rIn X.K false) inD := by
  intro O H x y v w d al e q1 q2 Q k
  unfold inD at e
  cases z : items w with
  | none => rw [z] at e; cases e
  | some ds =>
    rw [z] at e
    have e : (if flatD v = true ∧ ds.all flatD = true then some (PyData.bool (ds.any fun z => PyData.eqv z v)) else none) = some d := e
    split at e
    · rename_i h
      have e := Option.some.inj e
      subst e
      obtain ⟨p, xs, rfl, h1, h2⟩ := dq_items q2 z
      have q1 := dq_flat q1 h.1
      refine ⟨p, xs, rfl, hK ▸ h1, flat_of q1 h.1, flats_of h2 h.2, ?_⟩
      rw [if_neg Bool.false_ne_true, inV_of q1 h.1 h2 h.2]
      exact k _ H (Grow.refl _ _) (.bl _)
    · cases e
theorem o_notIn (hK : c.K = X.K) : Oq2 c (rIn X.K true) notInD := by
  intro O H x y v w d al e q1 q2 Q k
  unfold notInD at e
  cases z : items w with
  | none => rw [z] at e; cases e
  | some ds =>
    rw [z] at e
    have e : (if flatD v = true ∧ ds.all flatD = true then some (PyData.bool (!ds.any fun z => PyData.eqv z v)) else none) = some d := e
    split at e
    · rename_i h
      have e := Option.some.inj e
      subst e
      obtain ⟨p, xs, rfl, h1, h2⟩ := dq_items q2 z
      have q1 := dq_flat q1 h.1
      refine ⟨p, xs, rfl, hK ▸ h1, flat_of q1 h.1, flats_of h2 h.2, ?_⟩
      rw [if_pos rfl, inV_of q1 h.1 h2 h.2]
      exact k _ H (Grow.refl _ _) (.bl _)
    · cases e
/-! ### len, abs, int, tuple, list -/
def lenD : List D → Option D
  | [.str x] => if x.length ≤ sizeLine then some (.int x.length) else none
  | [.list xs] => some (.int xs.length)
  | [.tuple xs] => some (.int xs.length)
  | _ => none
def rLen (K : PySem.W.Frag) : List V → Hp → VK → Prop := fun xs H Q => ∃ x n, xs = [x] ∧ LenV K x H n ∧ Q (.int n) H
theorem o_len (hK : c.K = X.K) : OqN c (rLen X.K) lenD := by
  intro O H x v d al e q Q k
  cases v with
  | str z =>
    have e : (if z.length ≤ sizeLine then some (PyData.int z.length) else none) = some d := e
    split at e
    · rename_i h
      have e := Option.some.inj e
      subst e
      have e2 := dp_str q
      subst e2
      exact ⟨_, z.length, rfl, ⟨h, rfl⟩, k _ H (Grow.refl _ _) (.int _)⟩
    · cases e
  | list ds =>
    have e := Option.some.inj (show some (PyData.int ds.length) = some d from e)
    subst e
    obtain ⟨a, xs, rfl, h1, h2⟩ := q
    exact ⟨_, xs.length, rfl, .inl ⟨xs, hK ▸ h1, rfl⟩, by rw [dpa_len h2]; exact k _ H (Grow.refl _ _) (.int _)⟩
  | tuple ds =>
    have e := Option.some.inj (show some (PyData.int ds.length) = some d from e)
    subst e
    obtain ⟨a, xs, rfl, h1, h2⟩ := dp_tup q
    exact ⟨_, xs.length, rfl, .inr ⟨xs, hK ▸ (Sub.cut O H).sqt h1, rfl⟩, by rw [dpa_len h2]; exact k _ H (Grow.refl _ _) (.int _)⟩
  | none => cases e
  | bool _ => cases e
  | int _ => cases e
  | dict _ => cases e
theorem OqN.op {r : List V → Hp → VK → Prop} {op : List D → Option D} (h : OqN c r op) (h1 : ∀ vs d, op vs = some d → ∃ v, vs = [v]) : OpN c r op := by
  intro O H xs vs d al e q Q k
  obtain ⟨v, rfl⟩ := h1 vs d e
  obtain ⟨x, rfl, q1⟩ := dpa_one q
  exact h O H x v d al e (.of q1) Q k
theorem one_len {vs : List D} {d : D} (e : lenD vs = some d) : ∃ v, vs = [v] := by
  unfold lenD at e
  split at e <;> first | exact ⟨_, rfl⟩ | cases e
def absD : List D → Option D
  | [.int i] => some (.int (if i < 0 then -i else i))
  | _ => none
theorem o_abs : OpN c (fun xs H Q => ∃ i, xs = [.int i] ∧ Q (.int (if i < 0 then -i else i)) H) absD := by
  intro O H xs vs d al e q Q k
  unfold absD at e
  split at e
  · rename_i i
    have e := Option.some.inj e
    subst e
    obtain ⟨x, rfl, q1⟩ := dpa_one q
    have e2 := dp_int q1
    subst e2
    exact ⟨i, rfl, k _ H (Grow.refl _ _) (.int _)⟩
  · cases e
def intD : List D → Option D
  | [.int i] => some (.int i)
  | [.bool b] => some (.int (if b then 1 else 0))
  | _ => none
theorem o_int : OpN c (fun xs H Q => (∃ i, xs = [.int i] ∧ Q (.int i) H) ∨ ∃ k, xs = [.bl k] ∧ Q (.int (if k then 1 else 0)) H) intD := by
  intro O H xs vs d al e q Q k
  unfold intD at e
  split at e
  · rename_i i
    have e := Option.some.inj e
    subst e
    obtain ⟨x, rfl, q1⟩ := dpa_one q
    have e2 := dp_int q1
    subst e2
    exact .inl ⟨i, rfl, k _ H (Grow.refl _ _) (.int _)⟩
  · rename_i b
    have e := Option.some.inj e
    subst e
    obtain ⟨x, rfl, q1⟩ := dpa_one q
    have e2 := dp_bool q1
    subst e2
    exact .inr ⟨b, rfl, k _ H (Grow.refl _ _) (.int _)⟩
  · cases e
def tupD : List D → Option D
  | [.list xs] => some (.tuple xs)
  | [.tuple xs] => some (.tuple xs)
  | _ => none
def rTupOf (K : PySem.W.Frag) : List V → Hp → VK → Prop := fun xs H Q => ∃ p ys, xs = [.ref p] ∧ ((SqL K H p ys ∧ ∀ l, H l = none → Q (.ref l) (upd H l (.tup ys))) ∨ (SqT K H p ys ∧ Q (.ref p) H))
theorem o_tup (hK : c.K = X.K) : OqN c (rTupOf X.K) tupD := by
  intro O H x v d al e q Q k
  cases v with
  | list ds =>
    have e := Option.some.inj (show some (PyData.tuple ds) = some d from e)
    subst e
    obtain ⟨a, xs, rfl, h1, h2⟩ := q
    exact ⟨a, xs, rfl, .inl ⟨hK ▸ h1, fun p hp => k _ _ (Grow.new hp) (dp_newT hp (fresh_of al hp) h2)⟩⟩
  | tuple ds =>
    have e := Option.some.inj (show some (PyData.tuple ds) = some d from e)
    subst e
    obtain ⟨a, xs, rfl, h1, h2⟩ := dp_tup q
    exact ⟨a, xs, rfl, .inr ⟨hK ▸ (Sub.cut O H).sqt h1, k _ H (Grow.refl _ _) (.tup h1 h2)⟩⟩
  | none => cases e
  | bool _ => cases e
  | int _ => cases e
  | str _ => cases e
  | dict _ => cases e
theorem one_tup {vs : List D} {d : D} (e : tupD vs = some d) : ∃ v, vs = [v] := by
  unfold tupD at e
  split at e <;> first | exact ⟨_, rfl⟩ | cases e
def lstD : List D → Option D
  | [.list xs] => some (.list xs)
  | [.tuple xs] => some (.list xs)
  | _ => none
def rLstOf (K : PySem.W.Frag) : List V → Hp → VK → Prop := fun xs H Q => ∃ p ys, xs = [.ref p] ∧ (SqL K H p ys ∨ SqT K H p ys) ∧ ∀ l, H l = none → Q (.ref l) (upd H l (.lst ys))
theorem o_lst (hK : c.K = X.K) : OqN c (rLstOf X.K) lstD := by
  intro O H x v d al e q Q k
  cases v with
  | list ds =>
    have e := Option.some.inj (show some (PyData.list ds) = some d from e)
    subst e
    obtain ⟨a, xs, rfl, h1, h2⟩ := q
    exact ⟨a, xs, rfl, .inl (hK ▸ h1), fun p hp => k _ _ (Grow.new hp) (dp_newL hp (fresh_of al hp) h2)⟩
  | tuple ds =>
    have e := Option.some.inj (show some (PyData.list ds) = some d from e)
    subst e
    obtain ⟨a, xs, rfl, h1, h2⟩ := dp_tup q
    exact ⟨a, xs, rfl, .inr (hK ▸ (Sub.cut O H).sqt h1), fun p hp => k _ _ (Grow.new hp) (dp_newL hp (fresh_of al hp) h2)⟩
  | none => cases e
  | bool _ => cases e
  | int _ => cases e
  | str _ => cases e
  | dict _ => cases e
theorem one_lst {vs : List D} {d : D} (e : lstD vs = some d) : ∃ v, vs = [v] := by
  unfold lstD at e
  split at e <;> first | exact ⟨_, rfl⟩ | cases e
/-! ### items and slices -/
def ixD : D → D → Option D
  | .list xs, .int i => atI xs i
  | .tuple xs, .int i => atI xs i
  | .str z, .int i => if z.length ≤ sizeLine then (atI z.cps.toList i).map fun k => .str ⟨#[k]⟩ else none
  | _, _ => none
theorem dpa_at {K : PySem.W.Frag} {G : Hp} {ds : List D} {xs : List V} {i : Int} {d : D} (q : DpAll K G xs ds) (h : atI ds i = some d) : ∃ v, atI xs i = some v ∧ Dp K G v d := by
  unfold atI at h ⊢
  rw [dpa_len q]
  cases z : ixN ds.length i with
  | none => rw [z] at h; cases h
  | some j =>
    rw [z] at h
    exact dpa_get q h
theorem o_ix (hK : c.K = X.K) : Oq2 c (rIx X.K) ixD := by
  intro O H x y v w d al e q1 q2 Q k
  cases v with
  | list ds =>
    cases w with
    | int i =>
      obtain ⟨a, xs, rfl, h1, h2⟩ := q1
      obtain ⟨u, e1, e2⟩ := dpa_at h2 e
      exact .inl ⟨a, xs, i, u, rfl, dp_int q2, hK ▸ h1, e1, k _ H (Grow.refl _ _) e2⟩
    | _ => cases e
  | tuple ds =>
    cases w with
    | int i =>
      obtain ⟨a, xs, rfl, h1, h2⟩ := dp_tup q1
      obtain ⟨u, e1, e2⟩ := dpa_at h2 e
      exact .inr (.inl ⟨a, xs, i, u, rfl, dp_int q2, hK ▸ (Sub.cut O H).sqt h1, e1, k _ H (Grow.refl _ _) e2⟩)
    | _ => cases e
  | str z =>
    cases w with
    | int i =>
      have e : (if z.length ≤ sizeLine then (atI z.cps.toList i).map fun k => PyData.str ⟨#[k]⟩ else none) = some d := e
      split at e
      · rename_i h
        cases e1 : atI z.cps.toList i with
        | none => rw [e1] at e; cases e
        | some n =>
          rw [e1] at e
          have e := Option.some.inj e
          subst e
          exact .inr (.inr ⟨z, i, n, dp_str q1, dp_int q2, h, e1, k _ H (Grow.refl _ _) (.str _)⟩)
      · cases e
    | _ => cases e
  | none => cases e
  | bool _ => cases e
  | int _ => cases e
  | dict _ => cases e
end
end DL

namespace DL
open PySem PySem.Spec L2
section
variable {X : Cx} {c : Cf} {W : WX} {a b : Expr} {f g h : M D} {pos : Pos}
/-! ### slices -/
theorem SlR.or2 {r r' : V → Option Int → Option Int → Hp → VK → Prop} (h : SlR X r) (h' : SlR X r') : SlR X (fun x lo hi H Q => r x lo hi H Q ∨ r' x lo hi H Q) := SlR.or h h'
def cutD (xs : List D) (lo hi : Option Int) : List D := (xs.drop (HT.sIx xs.length 0 lo)).take (HT.sIx xs.length xs.length hi - HT.sIx xs.length 0 lo)
theorem dpa_cut {K : PySem.W.Frag} {G : Hp} {ds : List D} {xs : List V} (q : DpAll K G xs ds) (lo hi : Option Int) : DpAll K G (cutV xs lo hi) (cutD ds lo hi) := by
  unfold cutV cutD
  rw [dpa_len q]
  exact dpa_take _ (dpa_drop _ q)
theorem cutD_all {ds : List D} {lo hi : Option Int} (h : HT.sIx ds.length 0 lo = 0 ∧ HT.sIx ds.length ds.length hi = ds.length) : cutD ds lo hi = ds := by
  unfold cutD
  rw [h.1, h.2, List.drop_zero, Nat.sub_zero, List.take_length]
def slD (d : D) (lo hi : Option Int) : Option D := match d with
  | .list xs => some (.list (cutD xs lo hi))
  | .tuple xs => some (.tuple (cutD xs lo hi))
  | .str z => if z.length ≤ sizeLine then some (.str (cutS z lo hi)) else none
  | _ => none
def rSlAny (K : PySem.W.Frag) : V → Option Int → Option Int → Hp → VK → Prop := fun x lo hi H Q => (rSlL K x lo hi H Q ∨ rSlA K x lo hi H Q) ∨ rSlS x lo hi H Q
theorem sl_any : SlR X (rSlAny X.K) := SlR.or (SlR.or sl_list sl_tupA) sl_str
def mPart (p : Option (M D)) : M (Option Int) := match p with
  | none => fun s => .ok none s
  | some f => mMap f fun d => match d with | .int i => some (some i) | _ => none
def mSl (f : M D) (lo hi : M (Option Int)) : M D := fun s => (f s).bind fun d s1 => (lo s1).bind fun l s2 => (hi s2).bind fun u s3 => lift (slD d l u) s3
def SemP (c : Cf) (W : WX) (to : TO) (f : M (Option Int)) : Prop := ∀ O A σ H s, Rel c O A σ H s → ∀ Q : Option Int → Hp → Prop, Wp c W O A σ H (f s) (fun o _ H' => Q o H') → to σ H Q
def DP (c : Cf) (X : Cx) (W : WX) (e : Option Expr) (f : M (Option Int)) : Prop := ∃ to, PO X e to ∧ SemP c W to f
theorem p_none : DP c X W none (mPart none) := ⟨_, po_none, fun O A σ H s r Q w => w H (Stp.refl _ _) r⟩
theorem p_some (he : DE c X W a f) : DP c X W (some a) (mPart (some f)) := by
  obtain ⟨te, pe, se⟩ := he
  refine ⟨_, po_some pe, ?_⟩
  intro O A σ H s r Q w
  refine se O A σ H s r _ (Wp.mono (Wp.bind w) ?_)
  intro d s1 H1 _ f1 r1 w1 v q
  cases d with
  | int i => exact ⟨i, dp_int q, w1 H1 (Stp.refl _ _) r1⟩
  | none => exact w1.elim
  | bool _ => exact w1.elim
  | str _ => exact w1.elim
  | list _ => exact w1.elim
  | tuple _ => exact w1.elim
  | dict _ => exact w1.elim
theorem d_sl {lo hi : Option Expr} {fl fh : M (Option Int)} {p2 : Pos} (he : DE c X W a f) (hl : DP c X W lo fl) (hh : DP c X W hi fh) (hK : c.K = X.K := by rfl) : DE c X W (.Subscript a (.Slice lo hi none p2) pos) (mSl f fl fh) := by
  obtain ⟨te, pe, se⟩ := he
  obtain ⟨tl, pl, sl⟩ := hl
  obtain ⟨th, ph, sh⟩ := hh
  refine ⟨_, pe_slice sl_any pe pl ph, ?_⟩
  intro O A σ H s r Q w
  refine se O A σ H s r _ (Wp.mono (Wp.bind w) ?_)
  intro d s1 H1 _ f1 r1 w1 v q
  refine sl O A σ H1 s1 r1 _ (Wp.mono (Wp.bind w1) ?_)
  intro l s2 H2 _ f2 r2 w2
  refine sh O A σ H2 s2 r2 _ (Wp.mono (Wp.bind w2) ?_)
  intro u s3 H3 _ f3 r3 w3
  have q := Sub.dp (f3.fwd r2.sub) (Sub.dp (f2.fwd r1.sub) q)
  cases d with
  | list ds =>
    obtain ⟨p, xs, rfl, h1, h2⟩ := dp_list q
    refine .inl (.inl ⟨p, xs, rfl, hK ▸ (Sub.cut O H3).sql h1, fun y hy => ?_⟩)
    exact w3 _ ((Grow.new (c := c) hy).stp A) (r3.grow (Grow.new hy)) _ (dp_newL hy (r3.fresh hy) (dpa_cut h2 l u))
  | tuple ds =>
    obtain ⟨p, xs, rfl, h1, h2⟩ := dp_tup q
    have e := dpa_len h2
    refine .inl (.inr ⟨p, xs, rfl, hK ▸ (Sub.cut O H3).sqt h1, fun hw => ?_, fun _ y hy => ?_⟩)
    · rw [e] at hw
      have w3 := w3 H3 (Stp.refl _ _) r3 (.ref p)
      rw [cutD_all hw] at w3
      exact w3 (.tup h1 h2)
    · exact w3 _ ((Grow.new (c := c) hy).stp A) (r3.grow (Grow.new hy)) _ (dp_newT hy (r3.fresh hy) (dpa_cut h2 l u))
  | str z =>
    have e := dp_str q
    subst e
    have w3 : Wp c W O A σ H3 (lift (if z.length ≤ sizeLine then some (PyData.str (cutS z l u)) else none) s3) (PV c O Q) := w3
    split at w3
    · rename_i hz
      exact .inr ⟨z, rfl, hz, w3 H3 (Stp.refl _ _) r3 _ (.str _)⟩
    · exact w3.elim
  | none => exact w3.elim
  | bool _ => exact w3.elim
  | int _ => exact w3.elim
  | dict _ => exact w3.elim
/-- a slice of an owned list -/
def mSlO (i : Nat) (lo hi : M (Option Int)) : M D := fun s => match ownAt s i with
  | none => .bad
  | some _ => (lo s).bind fun l s2 => (hi s2).bind fun u s3 => match ownAt s3 i with
    | some ds => .ok (.list (cutD ds l u)) s3
    | none => .bad
theorem d_slo (i : Nat) {x : Str} {px : Pos} {lo hi : Option Expr} {fl fh : M (Option Int)} {p2 : Pos} (hl : DP c X W lo fl) (hh : DP c X W hi fh) (hN : X.N[i]? = some x := by rfl) (hv : Vis X.env.scope x := by first | exact Or.inl rfl | exact Or.inr (Or.inl rfl) | exact Or.inr (Or.inr rfl)) (hK : c.K = X.K := by rfl)
    (hd : (x == ("__debug__" : Str)) = false := by decide) (hcd : (x == ("__classdict__" : Str)) = false := by decide) : DE c X W (.Subscript (.Name x px) (.Slice lo hi none p2) pos) (mSlO i fl fh) := by
  obtain ⟨tl, pl, sl⟩ := hl
  obtain ⟨th, ph, sh⟩ := hh
  refine ⟨_, pe_slice sl_list (pe_var hN hv hd hcd) pl ph, ?_⟩
  intro O A σ H s r Q w
  unfold mSlO at w
  cases z0 : ownAt s i with
  | none => rw [z0] at w; exact w.elim
  | some ds0 =>
    rw [z0] at w
    obtain ⟨p, us, hσ, _, _, _⟩ := rel_own r z0
    refine ⟨.ref p, hσ, ?_⟩
    refine sl O A σ H s r _ (Wp.mono (Wp.bind w) ?_)
    intro l s2 H2 _ f2 r2 w2
    refine sh O A σ H2 s2 r2 _ (Wp.mono (Wp.bind w2) ?_)
    intro u s3 H3 _ f3 r3 w3
    cases z : ownAt s3 i with
    | none => rw [z] at w3; exact w3.elim
    | some ds =>
      rw [z] at w3
      obtain ⟨p', xs, hσ', _, h1, h2⟩ := rel_own r3 z
      rw [hσ] at hσ'
      cases hσ'
      refine ⟨p, xs, rfl, SqL.of h1, fun y hy => ?_⟩
      exact w3 _ ((Grow.new (c := c) hy).stp A) (r3.grow (Grow.new hy)) _ (dp_newL hy (r3.fresh hy) (dpa_cut h2 l u))

/-! ### isinstance -/
def tyN : D → String
  | .none => "NoneType"
  | .bool _ => "bool"
  | .int _ => "int"
  | .str _ => "str"
  | .list _ => "list"
  | .tuple _ => "tuple"
  | .dict _ => "dict"
def isiD (T : String) (d : D) : Option D := (kitB (tyN d) T).map .bool
theorem tyX_of {K : PySem.W.Frag} {O : List Addr} {H : Hp} {v : V} {d : D} (q : Dp K (cut O H) v d) : TyX K H v (.type (tyN d)) := by
  cases q with
  | non => exact .base .non
  | bl b => exact .base (.bl b)
  | int i => exact .base (.int i)
  | str x => exact .base (.str x)
  | lst h r =>
    rcases (Sub.cut O H).sql h with h | ⟨o, its, n, h1, h2, _⟩
    · rcases h with h | ⟨o, h⟩
      · exact .base (.lst h)
      · exact .base (.frz h)
    · exact .kList h1 h2
  | tup h r =>
    rcases (Sub.cut O H).sqt h with h | ⟨o, its, n, h1, h2, _⟩
    · rcases h with h | ⟨o, h⟩
      · exact .base (.tup h)
      · exact .fTuple h
    · exact .kTuple h1 h2
  | dct h r =>
    rcases h with h | ⟨o, h⟩
    · exact .base (.dK (cut_some h).2)
    · exact .fDict (cut_some h).2
theorem d_isi {T : String} {x xT : Str} {p pT : Pos} (he : DE c X W a f) (hm : X.mg x = none) (hbv : bootBuiltins x = some (.builtin "isinstance")) (hmT : X.mg xT = none) (hbT : bootBuiltins xT = some (.type T)) (hg : Gl X x := by rfl) (hgT : Gl X xT := by rfl) (hK : c.K = X.K := by rfl)
    (hn : x ≠ "__name__" := by decide) (hdb : (x == ("__debug__" : Str)) = false := by decide) (hnT : xT ≠ "__name__" := by decide) (hdT : (xT == ("__debug__" : Str)) = false := by decide)
    (hs1 : starEach [a, .Name xT pT] X.env = (false, eval a X.env) :: starEach [.Name xT pT] X.env := by rfl) (hs2 : starEach [.Name xT pT] X.env = (false, eval (.Name xT pT) X.env) :: starEach [] X.env := by rfl)
    (hpl : (backTo pos (starEach [.Name xT pT] X.env)).any (·.1) = false := by rfl) : DE c X W (.Call (.Name x p) [a, .Name xT pT] [] pos) (mMap f (isiD T)) := by
  obtain ⟨te, pe, se⟩ := he
  refine ⟨_, pe_callB call_isi hg hm hbv (pa_cons pe (pa_cons (pe_bltn (v := .ty T) hgT hmT hbT rfl hnT hdT) pa_nil hs2) hs1) hn hdb hs1 hpl, ?_⟩
  intro O A σ H s r Q w
  refine se O A σ H s r _ (Wp.mono (Wp.bind w) ?_)
  intro d s1 H1 _ f1 r1 w1 v q
  have w1 : Wp c W O A σ H1 (lift ((kitB (tyN d) T).map PyData.bool) s1) (PV c O Q) := w1
  cases e : kitB (tyN d) T with
  | none => rw [e] at w1; exact w1.elim
  | some bv =>
    rw [e] at w1
    exact ⟨v, .ty T, .type (tyN d), .type T, bv, rfl, .ty T, hK ▸ tyX_of q, kit_ty e, w1 H1 (Stp.refl _ _) r1 _ (.bl _)⟩
/-! ### the module's constants -/
theorem d_glob {x : Str} {v : V} {u : Value} {d : D} (hm : X.mg x = some u) (rv : RelV v u) (q : ∀ H, Dp c.K H v d) (hg : Gl X x := by rfl) (hd : (x == ("__debug__" : Str)) = false := by decide) : DE c X W (.Name x pos) (mC d) := ⟨_, pe_glob hg hm rv hd, sem_c q⟩
theorem d_globI {x : Str} {i : Int} {t : Tok} (hm : X.mg x = some (.int i t)) (hg : Gl X x := by rfl) (hd : (x == ("__debug__" : Str)) = false := by decide) : DE c X W (.Name x pos) (mC (.int i)) := d_glob (v := .int i) hm ⟨t, rfl⟩ (fun _ => .int i) hg hd
end
theorem kit_s_s : kitB "str" "str" = some true := by decide +kernel
theorem kit_t_t : kitB "tuple" "tuple" = some true := by decide +kernel
theorem kit_n_t : kitB "NoneType" "tuple" = some false := by decide +kernel
end DL

/-! any, all of a generator expression whose element may call. -/
namespace DL
open PySem PySem.Spec L2 GenW
open PyProof.Rows (AllBare)
/-- the context of a generator expression's frame -/
abbrev gCx (X : Cx) (B : Around) (s : Shared) (H : Hp) (genv : Env) (fp : List Addr) (pn : List (Addr × Obj)) : Cx :=
  { X with A := B.deeper genv, s_0 := s, H_0 := H, env := genv, outer := X.stack, stack := genv :: X.stack, ex := fp, fn := fun _ => false, calm := true, pn := pn, xe := fun _ _ => False }
theorem inv_like {X : Cx} {pins : List (Addr × Obj)} {σ : St} {H : Hp} {s s' : Shared} (I : Inv X pins σ H s) (hh : s'.heap = s.heap) (ho : s'.os = s.os) (hb : AllBare s'.gens) : Inv X pins σ H s' :=
  ⟨I.ok, ho.trans I.os, hb, by rw [hh]; exact I.base, by rw [hh]; exact I.loc, by rw [hh]; exact I.cell, I.free, I.freeC, by rw [hh]; exact I.pin, by rw [hh]; exact I.hok, I.len⟩
/-- an item is handed out -/
def gY (G : Cx) (σw : St) (d : Bool) (Qt : Hp → Prop) : Protocol := fun n s₀ v s kap =>
  ∃ (b : Bool) (H : Hp), v = .bool b ∧ Inv G [] σw H s ∧ (b = d → Qt H) ∧ (b ≠ d → ∀ s'' : Shared, s''.heap = s.heap → s''.os = s.os → AllBare s''.gens → kap (.send .none) s'')
def gR (G : Cx) (σw : St) (Qf : Hp → Prop) : GenEnd := fun n s₀ r s₁ => ((r = .ok (.ret .none) ∨ r = .ok .next) ∧ ∃ H, Inv G [] σw H s₁ ∧ Qf H) ∨ ∃ e, r = .error e ∧ False
theorem seg_yield0 {M : Model} {A : Around} {R : GenEnd} {Y : Protocol} {n : Nat} {s₀ : Shared} {c : Code} {fs : List Frame} {s : Shared} {v : Value} {g : Bool} {l : List Value} {k : Resume → Sem PySem.Fin} (hfs : splitAtGen fs = none) (hg : g = false) (hfg : fs.any Frame.guarded = false)
    (h : Y (n - 1) s₀ v s fun r s'' => Seg.next M A R Y n c (k r) fs s'') : Seg M A R Y n s₀ c (.yield v g l k) fs s := by
  rw [seg_iff]
  rintro Γ p rfl _
  exact ⟨_, s, Runs.yield' fs hfs, And.intro (by simp [End.quiet, hg, hfg]) h⟩
section
variable {X : Cx} {B : Around} {s0 : Shared} {H0 : Hp} {genv : Env} {fp : List Addr} {pn : List (Addr × Obj)} {it : Addr} {tn : Nat → Heap → Prop} {J : It} {tg iter elt : Expr} {scope : Scope} {pos : Pos} {σ : St} {vs : List Nat} {g : TG} {te : TE}
/-- what the walk needs -/
def aTurn (J : It) (g : TG) (te : TE) (vs : List Nat) (σ : St) (d : Bool) (W : Nat → Nat → Hp → Prop) (Qt Qf : Hp → Prop) : Prop :=
  ∀ i m H, W i m H → (J.stop i H ∧ Qf H) ∨ (J.go i H ∧ ∃ Nx : Hp → Prop, (∀ H', Nx H' → ∃ m', m' < m ∧ W (i + 1) m' H') ∧ ∀ x H', J.yld i H x H' → g x (wipe σ vs) H' fun σ2 H2 => wipe σ2 vs = wipe σ vs ∧ te σ2 H2 fun y H3 => ∃ b, y = .bl b ∧ if b = d then Qt H3 else Nx H3)
theorem gen_seg {d : Bool} {W : Nat → Nat → Hp → Prop} {Qt Qf : Hp → Prop} (hco : genv.scope.isCoroutine = false) (hpn : ∀ p ∈ pn, ∀ b ∈ fp, p.1 ≠ b) (T : Turn X.prog X.w X.K tg J fp it tn) (pg : PG (gCx X B s0 H0 genv fp pn) tg g) (pe : PE (gCx X B s0 H0 genv fp pn) elt te)
    (turn : aTurn J g te vs σ d W Qt Qf) : ∀ (n i m : Nat) (s₀ s : Shared) (H : Hp), m ≤ n → W i m H → Inv (gCx X B s0 H0 genv fp pn) [] (wipe σ vs) H s → tn i s.heap → (∀ b ∈ fp, H b = none) →
      Seg (model X.prog X.w) B (gR (gCx X B s0 H0 genv fp pn) (wipe σ vs) Qf) (gY (gCx X B s0 H0 genv fp pn) (wipe σ vs) d Qt) n s₀ (.compLoop (.GeneratorExp elt [⟨tg, iter, [], 0⟩] scope pos) 0 (.ref it) .none genv)
        ((model X.prog X.w).den (.compLoop (.GeneratorExp elt [⟨tg, iter, [], 0⟩] scope pos) 0 (.ref it) .none genv)) [] s := by
  have stat : ∀ {σ' : St} {H' : Hp} {s' : Shared}, Inv (gCx X B s0 H0 genv fp pn) [] σ' H' s' → (∀ b ∈ fp, H' b = none) → ∀ b ∈ fp, FpOk (gCx X B s0 H0 genv fp pn) [] H' b := fun {σ' H' s'} I' hn b hb =>
    ⟨hn b hb, (I'.ok.exf b hb).1, I'.ok.exfs b hb, .inl hb, fun x c e => (I'.ok.exf b hb).2 x c e, fun p hp => hpn p (by simpa using hp) b hb⟩
  have hy : ∀ v, yieldOut genv v = yieldValue v := fun v => by simp only [yieldOut, hco, Bool.false_eq_true, if_false]
  intro n
  induction n with
  | zero =>
    intro i m s₀ s H hm w I st nf
    show Seg _ B _ _ _ s₀ _ ((compTurn (.GeneratorExp elt [⟨tg, iter, [], 0⟩] scope pos) 0 (.ref it) .none genv).onRaise (leaving genv)) [] s
    rw [compTurn_gen, Sem.onRaise_eq_wrap]
    refine seg_bind_wrap (wpAny_standAt ?_)
    rcases turn i m H w with ⟨stop, qq⟩ | ⟨go, Nx, hNx, step⟩
    · have td := T.done (gCx X B s0 H0 genv fp pn) rfl rfl rfl rfl i [] s _ H (fun _ _ => False) I (stat I nf) st stop
      refine seg_bind_wrap (thnF td fun r s6 ⟨hr, I6⟩ => ?_)
      subst hr
      exact seg_end (.ok .next) (.inl ⟨.inr rfl, H, I6, qq⟩)
    · have ti := T.item (gCx X B s0 H0 genv fp pn) rfl rfl rfl rfl i [] s _ H (fun _ _ => False) I (stat I nf) st go
      refine seg_bind_wrap (thnF ti fun r s6 ⟨u, hr, h6⟩ => ?_)
      subst hr
      refine seg_bind_wrap (thnF h6 fun _ s7 ⟨x, H7, I7, r7, y7, st7, n7⟩ => ?_)
      have I7' := I7.pinned (stat I7 n7) (T.obj _ _ st7)
      refine seg_bind_wrap (thnF (pg.run _ s7 _ H7 x u _ I7' r7 (step x H7 y7)) fun _ s8 ⟨σ8, H8, I8, hw8, q8⟩ => ?_)
      refine seg_bind_wrap (wpAny_of_eq (List.forIn_nil ..) ?_)
      simp only [if_true, hy]
      rw [Sem.bind_eq_wrap', Sem.bind_eq_wrap', Sem.wrap_wrap, Sem.wrap_wrap]
      refine seg_wrap (thnF (pe.run _ s8 σ8 H8 _ I8 q8) fun y s9 ⟨yv, H9, I9, r9, b, eb, q9⟩ => ?_)
      subst eb
      cases r9
      have hl : (wipe σ vs).length = σ8.length := by rw [← hw8, wipe_length]
      have I9' := (I9.unpinned (pins := [])).weak hl (fun j v e => by rw [← hw8] at e; exact (wipe_some e).1)
      refine seg_at (seg_yield0 rfl rfl rfl ⟨b, H9, rfl, I9', fun e => ?_, fun ne => ?_⟩)
      · rw [if_pos e] at q9; exact q9
      · rw [if_neg ne] at q9
        obtain ⟨m', h1, _⟩ := hNx _ q9
        omega
  | succ n ih =>
    intro i m s₀ s H hm w I st nf
    show Seg _ B _ _ _ s₀ _ ((compTurn (.GeneratorExp elt [⟨tg, iter, [], 0⟩] scope pos) 0 (.ref it) .none genv).onRaise (leaving genv)) [] s
    rw [compTurn_gen, Sem.onRaise_eq_wrap]
    refine seg_bind_wrap (wpAny_standAt ?_)
    rcases turn i m H w with ⟨stop, qq⟩ | ⟨go, Nx, hNx, step⟩
    · have td := T.done (gCx X B s0 H0 genv fp pn) rfl rfl rfl rfl i [] s _ H (fun _ _ => False) I (stat I nf) st stop
      refine seg_bind_wrap (thnF td fun r s6 ⟨hr, I6⟩ => ?_)
      subst hr
      exact seg_end (.ok .next) (.inl ⟨.inr rfl, H, I6, qq⟩)
    · have ti := T.item (gCx X B s0 H0 genv fp pn) rfl rfl rfl rfl i [] s _ H (fun _ _ => False) I (stat I nf) st go
      refine seg_bind_wrap (thnF ti fun r s6 ⟨u, hr, h6⟩ => ?_)
      subst hr
      refine seg_bind_wrap (thnF h6 fun _ s7 ⟨x, H7, I7, r7, y7, st7, n7⟩ => ?_)
      have I7' := I7.pinned (stat I7 n7) (T.obj _ _ st7)
      refine seg_bind_wrap (thnF (pg.run _ s7 _ H7 x u _ I7' r7 (step x H7 y7)) fun _ s8 ⟨σ8, H8, I8, hw8, q8⟩ => ?_)
      refine seg_bind_wrap (wpAny_of_eq (List.forIn_nil ..) ?_)
      simp only [if_true, hy]
      rw [Sem.bind_eq_wrap', Sem.bind_eq_wrap', Sem.wrap_wrap, Sem.wrap_wrap]
      refine seg_wrap (thnF (pe.run _ s8 σ8 H8 _ I8 q8) fun y s9 ⟨yv, H9, I9, r9, b, eb, q9⟩ => ?_)
      subst eb
      cases r9
      have hl : (wipe σ vs).length = σ8.length := by rw [← hw8, wipe_length]
      have pin' : ∀ b ∈ fp, ∀ o, s7.heap.get? b = some o → s9.heap.get? b = some o ∧ H9 b = none := fun b hb o e =>
        let z := I9.pin (b, o) (List.mem_append_right _ (List.mem_append_right _ (mem_pinsAt hb e)))
        ⟨z.1, z.2.1⟩
      have I9' := (I9.unpinned (pins := [])).weak hl (fun j v e => by rw [← hw8] at e; exact (wipe_some e).1)
      refine seg_at (seg_yield0 rfl rfl rfl ⟨b, H9, rfl, I9', fun e => ?_, fun ne s'' eh eo hb => ?_⟩)
      · rw [if_pos e] at q9; exact q9
      · rw [if_neg ne] at q9
        obtain ⟨m', h1, w'⟩ := hNx _ q9
        refine seg_again rfl (ih (i + 1) m' s'' s'' H9 (by omega) w' (inv_like I9' eh eo hb) ?_ fun b hb => ?_)
        · exact T.keep _ _ _ st7 fun b hb o e => by rw [eh]; exact (pin' b hb o e).1
        · obtain ⟨o, e, _⟩ := T.obj _ _ st7 b hb
          exact (pin' b hb o e).2
end

theorem gen_any {G : Cx} {σw : St} {Qt Qf : Hp → Prop} {A : Around} {R : Result → Shared → Prop} {a : Addr} {g : Nat} (hh : A.handled = none) (hd : A.in1.depth < recursionLimit)
    (hgen : ∀ H s, Inv G [] σw H s → s.heap.IsGen a g) (ht : ∀ H s', Inv G [] σw H s' → Qt H → R (.ok (.ret (.bool true))) s') (hf : ∀ H s', Inv G [] σw H s' → Qf H → R (.ok (.ret (.bool false))) s') :
    ∀ (n : Nat) (s : Shared) (H : Hp), Inv G [] σw H s → (∃ gs, s.gens[g]? = some gs ∧ gs.Goes (model G.prog G.w) A.in1.in1 (gR G σw Qf) (gY G σw true Qt) n (.send .none) (s.setGen g .running)) →
      codeAny (model G.prog G.w) A (.builtin "any.loop" ⟨[.ref a], []⟩) R s := by
  have goes : ∀ {gs : GenState} {B : Around} {n : Nat} {r : Resume} {s : Shared}, gs.Goes (model G.prog G.w) B (gR G σw Qf) (gY G σw true Qt) n r s →
      gs.Goes (model G.prog G.w) B (fun n s₀ r s1 => ((r = .ok (.ret .none) ∨ r = .ok .next) ∧ (∃ H, Inv G [] σw H s1 ∧ Qf H)) ∨ ∃ e, r = .error e ∧ (fun _ _ => False) e s1) (gY G σw true Qt) n r s := fun h => h
  have fin : ∀ (s₁ : Shared) (h' : Heap), (∀ b o, s₁.heap.get? b = some o → h'.get? b = some o) → (∃ H, Inv G [] σw H s₁ ∧ Qf H) → R (.ok (.ret (.bool false))) { s₁.setGen g .finished with heap := h' } := fun s₁ h' hk ⟨H, I, q⟩ => by
    have J := I.kept (t' := s₁.toks) hk
    exact hf H _ (inv_like J rfl rfl (allBare_setGen (s := s₁) I.bare rfl)) q
  intro n
  induction n with
  | zero =>
    intro s H I ⟨gs, hgs, hgo⟩
    refine codeAny_builtin F.entry_any_loop ?_
    rw [Around.under_plainId F.plain_any_loop _]
    show wpAny _ A.in1 (pyNext (.ref a) >>= _) _ _ s
    refine wpAny_bind (next_genG (A := A.in1) hh I.nolimit hd (hgen H s I) hgs (goes hgo) (fun v s₁ gs' hbare hv => ?_) (fun s₁ hp h' hk => ?_) fun e s₁ he => he.elim)
    · obtain ⟨b, H1, rfl, I1, q1, q2⟩ := hv
      refine wpAny_bind (wpAny_holding (wpAny_truthy_bool ?_))
      refine wpAny_bind (wpAny_letGo ?_)
      by_cases e : b = true
      · subst e
        refine wpAny_bind (wpAny_rule (wpAny_pure ?_))
        exact ht H1 _ (inv_like I1 rfl rfl (allBare_setGen (s := s₁) I1.bare hbare)) (q1 rfl)
      · exact (q2 e s₁ rfl rfl I1.bare).elim
    · exact wpAny_bind (wpAny_rule (wpAny_pure (fin s₁ h' hk hp)))
  | succ n ih =>
    intro s H I ⟨gs, hgs, hgo⟩
    have hgl : g < s.gens.size := (Array.getElem?_eq_some_iff.mp hgs).1
    refine codeAny_builtin F.entry_any_loop ?_
    rw [Around.under_plainId F.plain_any_loop _]
    show wpAny _ A.in1 (pyNext (.ref a) >>= _) _ _ s
    refine wpAny_bind (GenW.wpAny_gsz (n := g + 1) hgl (next_genG (A := A.in1) hh I.nolimit hd (hgen H s I) hgs (goes hgo) (fun v s₁ gs' hbare hv => ?_) (fun s₁ hp h' hk => ?_) fun e s₁ he => he.elim))
    · intro hsz
      obtain ⟨b, H1, rfl, I1, q1, q2⟩ := hv
      refine wpAny_bind (wpAny_holding (wpAny_truthy_bool ?_))
      refine wpAny_bind (wpAny_letGo ?_)
      have J : Inv G [] σw H1 (s₁.setGen g gs') := inv_like I1 rfl rfl (allBare_setGen (s := s₁) I1.bare hbare)
      by_cases e : b = true
      · subst e
        exact wpAny_bind (wpAny_rule (wpAny_pure (ht H1 _ J (q1 rfl))))
      · have e2 : b = false := by cases b <;> first | rfl | exact absurd rfl e
        subst e2
        refine wpAny_pure ⟨plainId_quiet F.plain_any_loop _, ?_⟩
        have hsz1 : g < s₁.gens.size := by
          have q : (s₁.setGen g gs').gens.size = s₁.gens.size := GenW.setGen_size _ _ _
          have hsz' : g + 1 ≤ (s₁.setGen g gs').gens.size := hsz
          omega
        refine ih (s₁.setGen g gs') H1 J ⟨gs', setGen_at hsz1, ?_⟩
        exact q2 e _ rfl rfl (allBare_setGen (s := s₁.setGen g gs') J.bare rfl)
    · intro hsz
      exact wpAny_bind (wpAny_rule (wpAny_pure (fin s₁ h' hk hp)))

theorem gen_all {G : Cx} {σw : St} {Qt Qf : Hp → Prop} {A : Around} {R : Result → Shared → Prop} {a : Addr} {g : Nat} (hh : A.handled = none) (hd : A.in1.depth < recursionLimit)
    (hgen : ∀ H s, Inv G [] σw H s → s.heap.IsGen a g) (ht : ∀ H s', Inv G [] σw H s' → Qt H → R (.ok (.ret (.bool false))) s') (hf : ∀ H s', Inv G [] σw H s' → Qf H → R (.ok (.ret (.bool true))) s') :
    ∀ (n : Nat) (s : Shared) (H : Hp), Inv G [] σw H s → (∃ gs, s.gens[g]? = some gs ∧ gs.Goes (model G.prog G.w) A.in1.in1 (gR G σw Qf) (gY G σw false Qt) n (.send .none) (s.setGen g .running)) →
      codeAny (model G.prog G.w) A (.builtin "all.loop" ⟨[.ref a], []⟩) R s := by
  have goes : ∀ {gs : GenState} {B : Around} {n : Nat} {r : Resume} {s : Shared}, gs.Goes (model G.prog G.w) B (gR G σw Qf) (gY G σw false Qt) n r s →
      gs.Goes (model G.prog G.w) B (fun n s₀ r s1 => ((r = .ok (.ret .none) ∨ r = .ok .next) ∧ (∃ H, Inv G [] σw H s1 ∧ Qf H)) ∨ ∃ e, r = .error e ∧ (fun _ _ => False) e s1) (gY G σw false Qt) n r s := fun h => h
  have fin : ∀ (s₁ : Shared) (h' : Heap), (∀ b o, s₁.heap.get? b = some o → h'.get? b = some o) → (∃ H, Inv G [] σw H s₁ ∧ Qf H) → R (.ok (.ret (.bool true))) { s₁.setGen g .finished with heap := h' } := fun s₁ h' hk ⟨H, I, q⟩ => by
    have J := I.kept (t' := s₁.toks) hk
    exact hf H _ (inv_like J rfl rfl (allBare_setGen (s := s₁) I.bare rfl)) q
  intro n
  induction n with
  | zero =>
    intro s H I ⟨gs, hgs, hgo⟩
    refine codeAny_builtin F.entry_all_loop ?_
    rw [Around.under_plainId F.plain_all_loop _]
    show wpAny _ A.in1 (pyNext (.ref a) >>= _) _ _ s
    refine wpAny_bind (next_genG (A := A.in1) hh I.nolimit hd (hgen H s I) hgs (goes hgo) (fun v s₁ gs' hbare hv => ?_) (fun s₁ hp h' hk => ?_) fun e s₁ he => he.elim)
    · obtain ⟨b, H1, rfl, I1, q1, q2⟩ := hv
      refine wpAny_bind (wpAny_holding (wpAny_truthy_bool ?_))
      refine wpAny_bind (wpAny_letGo ?_)
      by_cases e : b = false
      · subst e
        refine wpAny_bind (wpAny_rule (wpAny_pure ?_))
        exact ht H1 _ (inv_like I1 rfl rfl (allBare_setGen (s := s₁) I1.bare hbare)) (q1 rfl)
      · exact (q2 e s₁ rfl rfl I1.bare).elim
    · exact wpAny_bind (wpAny_rule (wpAny_pure (fin s₁ h' hk hp)))
  | succ n ih =>
    intro s H I ⟨gs, hgs, hgo⟩
    have hgl : g < s.gens.size := (Array.getElem?_eq_some_iff.mp hgs).1
    refine codeAny_builtin F.entry_all_loop ?_
    rw [Around.under_plainId F.plain_all_loop _]
    show wpAny _ A.in1 (pyNext (.ref a) >>= _) _ _ s
    refine wpAny_bind (GenW.wpAny_gsz (n := g + 1) hgl (next_genG (A := A.in1) hh I.nolimit hd (hgen H s I) hgs (goes hgo) (fun v s₁ gs' hbare hv => ?_) (fun s₁ hp h' hk => ?_) fun e s₁ he => he.elim))
    · intro hsz
      obtain ⟨b, H1, rfl, I1, q1, q2⟩ := hv
      refine wpAny_bind (wpAny_holding (wpAny_truthy_bool ?_))
      refine wpAny_bind (wpAny_letGo ?_)
      have J : Inv G [] σw H1 (s₁.setGen g gs') := inv_like I1 rfl rfl (allBare_setGen (s := s₁) I1.bare hbare)
      by_cases e : b = false
      · subst e
        exact wpAny_bind (wpAny_rule (wpAny_pure (ht H1 _ J (q1 rfl))))
      · have e2 : b = true := by cases b <;> first | rfl | exact absurd rfl e
        subst e2
        refine wpAny_pure ⟨plainId_quiet F.plain_all_loop _, ?_⟩
        have hsz1 : g < s₁.gens.size := by
          have q : (s₁.setGen g gs').gens.size = s₁.gens.size := GenW.setGen_size _ _ _
          have hsz' : g + 1 ≤ (s₁.setGen g gs').gens.size := hsz
          omega
        refine ih (s₁.setGen g gs') H1 J ⟨gs', setGen_at hsz1, ?_⟩
        exact q2 e _ rfl rfl (allBare_setGen (s := s₁.setGen g gs') J.bare rfl)
    · intro hsz
      exact wpAny_bind (wpAny_rule (wpAny_pure (fin s₁ h' hk hp)))

section
variable {X : Cx} {pins : List (Addr × Obj)} {σ : St} {H : Hp} {s : Shared} {B : Around}
theorem gen_inv {scope : Scope} {own : List (Str × Nat)} {fp : List Addr} {code : Value} {h' : Heap} {go : Obj} {m0 : Str → Option Value} {g' : Array GenState} {t' : Nat} (I : Inv X pins σ H s) (ok : BlkOk X.N X.env.scope scope own) (hN : X.N.Nodup) (hcell : ∀ y ∈ scope.names, y.2 ≠ .cell)
    (hfp : ∀ b ∈ fp, FpOk X pins H b ∧ b < s.heap.objs.size) (hB : B.frames = some X.stack) (hBh : B.handled = none) (hn : h'.Ns s.heap.objs.size m0) (kp : ∀ b o, s.heap.get? b = some o → h'.get? b = some o) (hsz : h'.objs.size = s.heap.objs.size + 1)
    (hgp : (h'.push go).get? h'.objs.size = some go) (hgd : ∀ v, go.data ≠ .cell v) (hb : AllBare g') :
    Inv (gCx X B s H (genEnv scope (cloFrom X.env.cells scope.names []) s.heap.objs.size code builtinsNs X.env) fp [(h'.objs.size, go)]) [] (wipe σ (own.map (·.2))) H { s with heap := h'.push go, gens := g', toks := t' } := by
  have hfree : ∀ y ∈ scope.names, y.2 = .free → ∃ c, X.env.cells.lookup y.1 = some c := fun y hy e => by
    rcases ok.free y hy e with k | k
    · exact I.ok.has _ (.inl k)
    · exact I.ok.has _ (.inr k)
  have cm : ∀ {y c}, (y, c) ∈ cloFrom X.env.cells scope.names [] → X.env.cells.lookup y = some c ∧ c < s.heap.objs.size := fun {y c} hm => by
    rcases cloFrom_mem hm with hm | ⟨h1, rfl⟩
    · cases hm
    · obtain ⟨c, hc⟩ := hfree _ h1 rfl
      rw [hc]
      obtain ⟨w, z⟩ := I.cell _ _ hc
      exact ⟨rfl, z.lt⟩
  have look : ∀ {y}, scope.names.lookup y = some .free → ∃ c, (cloFrom X.env.cells scope.names []).lookup y = some c ∧ X.env.cells.lookup y = some c := fun {y} hl => by
    have hy : (y, NameKind.free) ∈ scope.names := PySem.mem_of_lookup hl
    obtain ⟨c', e'⟩ := mem_lookup (cloFrom_has (cells := X.env.cells) (acc := []) hy)
    exact ⟨c', e', (cm (PySem.mem_of_lookup e')).1⟩
  have kp5 : ∀ b o, s.heap.get? b = some o → (h'.push go).get? b = some o := fun b o e => Heap.get?_push_of_some _ (kp b o e)
  have young : ∀ {b : Addr}, s.heap.objs.size ≤ b → b ∉ frs X.stack := fun {b} hb hm => by
    rcases List.mem_cons.mp (I.stkSub b hm) with z | z
    · exact absurd (Nat.lt_of_lt_of_le I.lt hb) (by rw [z]; exact Nat.lt_irrefl _)
    · exact I.nofs hb z
  have sga : s.heap.objs.size ≤ h'.objs.size := by rw [hsz]; exact Nat.le_succ _
  have okB : (gCx X B s H (genEnv scope (cloFrom X.env.cells scope.names []) s.heap.objs.size code builtinsNs X.env) fp [(h'.objs.size, go)]).Ok := by
    refine ⟨I.ok.mod, ok.kind, I.ok.glob, rfl, Nat.le_refl _, fun y z c e1 e2 => ?_, fun y hy => ?_, fun y c z e => (by cases (show false = true from z)), fun _ => hBh, Around.frames_deeper hB, .inr ⟨rfl, rfl⟩, fun b hb => ⟨Nat.ne_of_lt (hfp b hb).2, fun y c e z => ?_⟩, I.bs, Nat.le_trans I.ok.bsz I.sz, fun b o e hb => ?_, fun b hb z => ?_, I.stack, I.stkFree⟩
    · exact I.ok.inj y z c (cm (PySem.mem_of_lookup e1)).1 (cm (PySem.mem_of_lookup e2)).1
    · rcases hy with hy | hy
      · have hy : scope.names.lookup y = some .cell := hy
        exact absurd rfl (hcell _ (PySem.mem_of_lookup hy))
      · obtain ⟨c, h1, _⟩ := look hy
        exact ⟨c, h1⟩
    · exact (hfp b hb).1.2.2.2.2.1 y c (cm (PySem.mem_of_lookup e)).1 z
    · rcases (hfp b hb).1.2.2.2.1 with z | z
      · exact I.ok.noex b o e z
      · exact absurd (Nat.lt_of_lt_of_le (Heap.lt_size e) (Nat.le_trans I.ok.bsz z)) (Nat.lt_irrefl _)
    · rcases List.mem_cons.mp (I.stkSub b z) with z | z
      · exact (hfp b hb).1.2.1 z
      · exact (hfp b hb).1.2.2.1 z
  refine ⟨okB, rfl, hb, Un.kept kp5, ⟨m0, hn.push _, fun i y av e1 e2 e3 => ?_⟩, fun y c e => ?_, I.hok.fresh (Nat.le_refl _), fun y c e => ?_, fun p hp => ?_, I.hok.kept kp5, by rw [wipe_length]; exact I.len⟩
  · obtain ⟨e2, hne⟩ := wipe_some e2
    have hfr : scope.names.lookup y = some .free := by
      have no : ∀ k', scope.names.lookup y = some k' → ¬ (k' = .local ∨ k' = .cell) := fun k' e hh => by
        rcases ok.own _ (PySem.mem_of_lookup e) hh with e' | e'
        · obtain ⟨p, hp, hpy⟩ := List.mem_map.mp e'
          have e3 := ok.ix p hp
          have : p.1 = y := hpy
          rw [this] at e3
          exact hne (List.mem_map.mpr ⟨p, hp, nodup_ix hN e3 e1⟩)
        · exact e' (List.mem_of_getElem? e1)
      have e3 : Vis scope y := e3
      rcases e3 with e3 | e3 | e3
      · exact absurd (.inl rfl) (no _ e3)
      · exact absurd (.inr rfl) (no _ e3)
      · exact e3
    obtain ⟨m, hn, hl⟩ := I.loc
    have hvis : Vis X.env.scope y := (ok.free _ (PySem.mem_of_lookup hfr) rfl).elim (fun k => .inr (.inl k)) (fun k => .inr (.inr k))
    obtain ⟨w, r, q⟩ := hl i y av e1 e2 hvis
    refine ⟨w, r, .inr ⟨.inr hfr, ?_⟩⟩
    obtain ⟨c, h1, h2⟩ := look hfr
    rcases q with ⟨k, _⟩ | ⟨_, c', e', z⟩
    · have k : X.env.scope.names.lookup y = some .local := k
      rcases ok.free _ (PySem.mem_of_lookup hfr) rfl with k' | k' <;> rw [show X.env.scope.names.lookup y = _ from k'] at k <;> cases k
    · rw [h2] at e'; cases e'
      exact ⟨c, h1, z.keeps kp5⟩
  · obtain ⟨h1, _⟩ := cm (PySem.mem_of_lookup e)
    obtain ⟨w, z⟩ := I.cell y c h1
    exact ⟨w, z.keeps kp5⟩
  · exact I.freeC y c (cm (PySem.mem_of_lookup e)).1
  · have e : p = (h'.objs.size, go) := by simpa using hp
    subst e
    exact ⟨hgp, I.hok.fresh sga, by show h'.objs.size ≠ s.heap.objs.size; omega, young sga, hgd⟩
end

section
variable {X : Cx} {B : Around} {s0 : Shared} {H0 : Hp} {genv : Env} {fp : List Addr} {pn : List (Addr × Obj)} {it : Addr} {tn : Nat → Heap → Prop} {J : It} {tg iter elt : Expr} {scope : Scope} {pos : Pos} {σ : St} {vs : List Nat} {g : TG} {te : TE}
theorem gen_segS {d : Bool} {W : Nat → Nat → Hp → Prop} {Qt Qf : Hp → Prop} (hco : genv.scope.isCoroutine = false) (hpn : ∀ p ∈ pn, ∀ b ∈ fp, p.1 ≠ b) (T : Turn X.prog X.w X.K tg J fp it tn) (pg : PG (gCx X B s0 H0 genv fp pn) tg g) (pe : PE (gCx X B s0 H0 genv fp pn) elt te)
    (turn : aTurn J g te vs σ d W Qt Qf) (n m : Nat) (s₀ s : Shared) (H : Hp) (hm : m ≤ n) (w0 : W 0 m H) (I : Inv (gCx X B s0 H0 genv fp pn) [] (wipe σ vs) H s) (st : tn 0 s.heap) (nf : ∀ b ∈ fp, H b = none) :
      Seg (model X.prog X.w) B (gR (gCx X B s0 H0 genv fp pn) (wipe σ vs) Qf) (gY (gCx X B s0 H0 genv fp pn) (wipe σ vs) d Qt) n s₀ (.compStart (.GeneratorExp elt [⟨tg, iter, [], 0⟩] scope pos) 0 (.ref it) .none genv)
        ((model X.prog X.w).den (.compStart (.GeneratorExp elt [⟨tg, iter, [], 0⟩] scope pos) 0 (.ref it) .none genv)) [] s := by
  have loop := gen_seg (iter := iter) (scope := scope) (pos := pos) hco hpn T pg pe turn n 0 m s₀ s H hm w0 I st nf
  show Seg _ B _ _ _ s₀ _ ((compStart (.GeneratorExp elt [⟨tg, iter, [], 0⟩] scope pos) 0 (.ref it) .none genv).onRaise (leaving genv)) [] s
  unfold compStart
  rw [Sem.onRaise_eq_wrap]
  show Seg _ B _ _ _ s₀ _ ((ask >>= _).wrap _ _ _ _) [] s
  refine seg_bind_wrap (wpAny_askSetting ?_)
  split
  · exact seg_again rfl loop
  · first
      | exact seg_bind_wrap (wpAny_rule (seg_bind_wrap (wpAny_standAt (seg_bind_wrap (T.self _ 0 s _ _ st (seg_again rfl loop))))))
      | (refine seg_bind_wrap (wpAny_rule ?_); show Seg _ B _ _ _ s₀ _ ((standAt iter.pos >>= _).wrap _ _ _ _) [] s; exact seg_bind_wrap (wpAny_standAt (seg_bind_wrap (T.self _ 0 s _ _ st (seg_again rfl loop)))))
end
/-- any (d = true), all (d = false) of a generator expression; P the def's table -/
def tAny (d : Bool) (P : Addr) (wi : TI) (g : TG) (te : TE) (vs : List Nat) : TE := fun σ H Q => wi σ H fun J H1 => GxR.TabG H1 P ∧ ∀ H2, GxR.Tabbed P H1 H2 → ∃ W : Nat → Nat → Hp → Prop, (∃ m, W 0 m H2) ∧ aTurn J g te vs σ d W (fun H => Q (.bl d) H) (fun H => Q (.bl (!d)) H)
section
variable {X : Cx} {pins : List (Addr × Obj)} {σ : St} {H : Hp} {s : Shared}
theorem gen_make {k : Nat} {c P : Addr} {d : Bool} {elt tg iter : Expr} {scope : Scope} {own : List (Str × Nat)} {gpos : Pos} {wi : TI} {g : TG} {te : TE} {Q : VK} {Q' : Value → Shared → Prop}
    (hr : Room k X.A) (TB : GxR.TabB X.base X.mg c P) (hcode : X.env.code = .ref c) (hN : X.N.Nodup) (ok : BlkOk X.N X.env.scope scope own) (hco : scope.isCoroutine = false) (hcell : ∀ y ∈ scope.names, y.2 ≠ .cell) (h0 : scope.names.lookup (".0" : Str) = some NameKind.local)
    (hi : PI X tg iter wi) (hs : ∀ v, genFold iter X.env v = pure v)
    (hg : ∀ (s : Shared) (H : Hp) (C : Addr) (code : Value) (fp : List Addr) (pn : List (Addr × Obj)), PG (gCx X X.A.in1.in1 s H (genEnv scope (cloFrom X.env.cells scope.names []) C code builtinsNs X.env) fp pn) tg g)
    (he : ∀ (s : Shared) (H : Hp) (C : Addr) (code : Value) (fp : List Addr) (pn : List (Addr × Obj)), PE (gCx X X.A.in1.in1 s H (genEnv scope (cloFrom X.env.cells scope.names []) C code builtinsNs X.env) fp pn) elt te)
    (I : Inv X pins σ H s) (h : tAny d P wi g te (own.map (·.2)) σ H Q)
    (hQ : ∀ (G : Cx) (σw : St) (a : Addr) (gn n : Nat) (s5 : Shared) (H5 : Hp), G.prog = X.prog → G.w = X.w → Inv G [] σw H5 s5 →
      (∃ gs, s5.gens[gn]? = some gs ∧ gs.Goes (model G.prog G.w) X.A.in1.in1 (gR G σw fun H => Q (.bl (!d)) H) (gY G σw d fun H => Q (.bl d) H) n (.send .none) (s5.setGen gn .running)) →
      (∀ H s, Inv G [] σw H s → s.heap.IsGen a gn) → (∀ H s, Inv G [] σw H s → Inv X pins σ H s) → Q' (.ref a) s5) :
    wpAny (model X.prog X.w) X.A (eval (.GeneratorExp elt [⟨tg, iter, [], 0⟩] scope gpos) X.env) Q' X.xe s := by
  have hfree : ∀ y ∈ scope.names, y.2 = .free → ∃ c, X.env.cells.lookup y.1 = some c := fun y hy e => by
    rcases ok.free y hy e with k | k
    · exact I.ok.has _ (.inl k)
    · exact I.ok.has _ (.inr k)
  refine wpAny_GeneratorExp_make hco (closure_ok hfree) hcell h0 ok.kind hr.depth ?_ hs
  refine thn (hi.run pins s σ H _ I h) fun xv s1 hx => thn hx fun itv s2 h2 => ?_
  obtain ⟨it, fp, tn, J, H2, e, I2, T, st2, f2, q⟩ := h2
  subst e
  obtain ⟨⟨ps, hP, ht⟩, q⟩ := q
  refine ⟨I2.nolimit, ?_⟩
  have hPs : s2.heap.get? P = some { cls := .none, data := .fields ps } := I2.hok P _ hP
  have cd : PySem.W.CodeHd s2.heap c P := TB.code.keeps fun b u e => I2.bk b u e
  have sz : ∀ b ∈ fp, b < s2.heap.objs.size := fun b hb => by
    obtain ⟨o, e, _⟩ := T.obj _ _ st2 b hb
    exact Heap.lt_size e
  have fpP : ∀ b ∈ fp, b ≠ P := fun b hb z => by
    have := (f2 b hb).1
    rw [z, hP] at this; cases this
  have cont : ∀ (code : Value) (h3 : Heap) (tk : Nat) (ps' : Array Value), Heap.ExtBut P s2.heap h3 → s2.heap.objs.size ≤ h3.objs.size → h3.get? P = some { cls := .none, data := .fields ps' } → (∃ more, ps' = ps ++ more) → TriplesOk ps'.toList →
      wpAny (model X.prog X.w) X.A (builtinsFor X.env.globals X.env.builtins) (fun bi s₄ =>
        ∀ h', h'.Ns s₄.heap.objs.size (fun y => if y = ".0" then some (.ref it) else none) → Heap.SameBut s₄.heap.objs.size (s₄.heap.push { cls := .type "frame", data := .dict #[] }) h' →
          Q' (.ref h'.objs.size) { s₄ with
            gens := s₄.gens.push (.fresh (.compStart (.GeneratorExp elt [⟨tg, iter, [], 0⟩] scope gpos) 0 (.ref it) .none (genEnv scope (cloFrom X.env.cells scope.names []) s₄.heap.objs.size code bi X.env))),
            toks := s₄.toks + 1 + 1 + 1,
            heap := h'.push { cls := .type "generator", data := .fields #[.int s₄.gens.size 0, .str "<genexpr>" (s₄.toks + 1), .str (X.env.qual ++ "<genexpr>") (s₄.toks + 1 + 1)] } }) X.xe { s2 with heap := h3, toks := tk } := by
    intro code h3 tk ps' hx hsz hP3 hmore ht3
    obtain ⟨bm, ob, e1, e2, e3, e4, e5, e6, e7, e8⟩ := TB.bm
    have keep3 : ∀ b u, b ≠ P → s2.heap.get? b = some u → h3.get? b = some u := fun b u hb e => hx b u hb e
    refine wpAny_builtinsFor (m := X.mg) (by rw [I2.ok.glob]; exact (I2.mod.glob.keeps I2.bk).extBut hx TB.gP) e1 e2 (keep3 _ _ e4 (I2.bk _ _ e5)) e6 e7 e8 ?_
    obtain ⟨more, em⟩ := hmore
    have I4 : Inv X pins σ (upd H2 P (.tbl (ps ++ more))) { s2 with heap := h3, gens := s2.gens, drawn := s2.drawn, toks := tk } := GxR.inv_tab I2 hP keep3 (by rw [← em]; exact hP3) I2.bare
    have hTab : GxR.Tabbed P H2 (upd H2 P (.tbl (ps ++ more))) := ⟨⟨ps ++ more, upd_same, by rw [← em]; exact ht3⟩, fun b hb => upd_ne hb⟩
    obtain ⟨W, ⟨m, w0⟩, turn⟩ := q _ hTab
    generalize upd H2 P (.tbl (ps ++ more)) = H4 at I4 hTab w0
    have f4 : ∀ b ∈ fp, FpOk X pins H4 b ∧ b < h3.objs.size := fun b hb => by
      have hlt := sz b hb
      exact ⟨⟨by rw [hTab.2 b (fpP b hb)]; exact (f2 b hb).1, (f2 b hb).2⟩, Nat.lt_of_lt_of_le hlt hsz⟩
    have st4 : tn 0 h3 := T.keep _ _ _ st2 fun b hb o e => hx b o (fpP b hb) e
    intro h' hn' hs'
    have hsz' : h'.objs.size = h3.objs.size + 1 := by rw [hs'.1, Heap.size_push]
    have keep' : ∀ b o, h3.get? b = some o → h'.get? b = some o := fun b o e => hs'.extBut b o (Nat.ne_of_lt (Heap.lt_size e)) (Heap.get?_push_of_some _ e)
    generalize hgo : ({ cls := .type "generator", data := .fields #[.int s2.gens.size 0, .str "<genexpr>" (tk + 1), .str (X.env.qual ++ "<genexpr>") (tk + 1 + 1)] } : Obj) = go
    have hgp : ∀ h : Heap, (h.push go).get? h.objs.size = some go := fun h => by rw [← hgo]; exact Heap.get?_push_size _ rfl
    have hgd : ∀ v, go.data ≠ .cell v := fun v => by rw [← hgo]; intro z; cases z
    have hgen : ∀ h : Heap, h.get? h'.objs.size = some go → h.IsGen h'.objs.size s2.gens.size := fun h e => ⟨go, _, _, e, by rw [← hgo], by rw [← hgo], by rw [← hgo]⟩
    have J5 := gen_inv (B := X.A.in1.in1) (code := code) (go := go) (g' := s2.gens.push (.fresh (.compStart (.GeneratorExp elt [⟨tg, iter, [], 0⟩] scope gpos) 0 (.ref it) .none (genEnv scope (cloFrom X.env.cells scope.names []) h3.objs.size code builtinsNs X.env)))) (t' := tk + 1 + 1 + 1)
      I4 ok hN hcell f4 I4.ok.frames hr.hd hn' keep' hsz' (hgp h') hgd (AllBare.push I2.bare rfl)
    have nf : ∀ b ∈ fp, H4 b = none := fun b hb => (f4 b hb).1.1
    have hpn : ∀ p ∈ [(h'.objs.size, go)], ∀ b ∈ fp, p.1 ≠ b := fun p hp b hb z => by
      have e : p = (h'.objs.size, go) := by simpa using hp
      subst e
      have h1 : b < h3.objs.size := (f4 b hb).2
      have z : h'.objs.size = b := z
      rw [← z, hsz'] at h1
      exact absurd h1 (Nat.not_lt_of_ge (Nat.le_succ _))
    have st5 : tn 0 (h'.push go) := T.keep _ _ _ st4 fun b _ o e => Heap.get?_push_of_some _ (keep' b o e)
    refine hQ (gCx X X.A.in1.in1 _ H4 (genEnv scope (cloFrom X.env.cells scope.names []) h3.objs.size code builtinsNs X.env) fp [(h'.objs.size, go)]) (wipe σ (own.map (·.2))) _ _ m _ H4 rfl rfl J5 ⟨_, Array.getElem?_push_size .., rfl, ?_⟩ (fun H' s' I' => ?_) (fun H' s' I' => ?_)
    · exact gen_segS hco hpn T (hg _ _ _ _ _ _) (he _ _ _ _ _ _) turn m m _ _ H4 (Nat.le_refl _) w0 (inv_like J5 rfl rfl (allBare_setGen J5.bare rfl)) st5 nf
    · exact hgen _ (I'.pin (h'.objs.size, go) (List.mem_append_left _ (List.mem_singleton.mpr rfl))).1
    · exact I4.call' (ch := fp) I'.os I'.base I'.hok I'.bare fun b hb => ⟨(f4 b hb).1.2.2.2.1, (f4 b hb).1.2.1, (f4 b hb).1.2.2.2.2.1, (f4 b hb).1.2.2.2.2.2⟩
  cases hf : codeAmong gpos ps.toList with
  | none =>
    refine wpAny_genexprCodeX hcode (cd.code hPs ht) (cd.tab hPs) hf fun c' h' tk hx hge hlt hco' _ htab' _ => ?_
    obtain ⟨o1, vs, f1, tf, fl, tg, inF, tx, tt, op, _, _, _, _, _, _, _, _, _, htr, _⟩ := hco'
    exact cont _ h' tk _ hx (Nat.le_trans hge (Nat.le_of_lt hlt)) htab'.2 ⟨_, rfl⟩ htr
  | some cv =>
    refine wpAny_genexprCode_hit hcode (cd.code hPs ht) hf ?_
    exact cont cv s2.heap s2.toks ps (Heap.ExtBut.refl _ _) (Nat.le_refl _) hPs ⟨#[], by simp⟩ ht

theorem pe_any {k : Nat} {c P : Addr} {elt tg iter : Expr} {p pos gpos : Pos} {scope : Scope} {own : List (Str × Nat)} {wi : TI} {g : TG} {te : TE}
    (hr : Room k X.A) (hgl : Gl X "any") (hm : X.mg "any" = none) (TB : GxR.TabB X.base X.mg c P) (hcode : X.env.code = .ref c) (hN : X.N.Nodup) (ok : BlkOk X.N X.env.scope scope own) (hco : scope.isCoroutine = false) (hcell : ∀ y ∈ scope.names, y.2 ≠ .cell) (h0 : scope.names.lookup (".0" : Str) = some NameKind.local)
    (hi : PI X tg iter wi) (hs : ∀ v, genFold iter X.env v = pure v)
    (hg : ∀ (s : Shared) (H : Hp) (C : Addr) (code : Value) (fp : List Addr) (pn : List (Addr × Obj)), PG (gCx X X.A.in1.in1 s H (genEnv scope (cloFrom X.env.cells scope.names []) C code builtinsNs X.env) fp pn) tg g)
    (he : ∀ (s : Shared) (H : Hp) (C : Addr) (code : Value) (fp : List Addr) (pn : List (Addr × Obj)), PE (gCx X X.A.in1.in1 s H (genEnv scope (cloFrom X.env.cells scope.names []) C code builtinsNs X.env) fp pn) elt te)
    (hst : starEach [.GeneratorExp elt [⟨tg, iter, [], 0⟩] scope gpos] X.env = (false, eval (.GeneratorExp elt [⟨tg, iter, [], 0⟩] scope gpos) X.env) :: starEach [] X.env := by rfl) :
    PE X (.Call (.Name "any" p) [.GeneratorExp elt [⟨tg, iter, [], 0⟩] scope gpos] [] pos) (tAny true P wi g te (own.map (·.2))) := by
  refine ⟨fun pins s σ H Q I h => ?_⟩
  refine wpAny_Call_Name_kw (ld_blt I hgl hm PyProof.Rows.boot_any ?_)
  refine PyProof.Rows.callWith_builtin1 ?_ hst (by rfl)
  rw [hst]
  show wpAny _ _ (spliced ((false, eval (.GeneratorExp elt [⟨tg, iter, [], 0⟩] scope gpos) X.env) :: backTo pos (starEach [] X.env))) _ _ s
  refine Calls.spliced_cons (gen_make (d := true) (Q := Q) hr TB hcode hN ok hco hcell h0 hi hs hg he I h fun G σw a gn n s5 H5 ep ew I5 hgs hgen hback => ?_)
  refine Calls.spliced_nil ?_
  refine call_function_tree F.kind_any F.plain_any F.entry_any (F.args_any1 _) ?_
  unfold Builtin.«any»
  refine wpAny_bind (m := oneArg "any" _) (wpAny_pure ?_)
  refine wpAny_bind (wpAny_pyIter_gen (hgen _ _ I5) ?_)
  refine wpAny_pure ⟨plainId_quiet F.plain_any_loop _, ?_⟩
  rw [← ep, ← ew]
  refine gen_any (G := G) (σw := σw) (Qt := fun H => Q (.bl true) H) (Qf := fun H => Q (.bl (!true)) H) (A := X.A) hr.hd hr.depth hgen (fun H' s' I' q => ?_) (fun H' s' I' q => ?_) n s5 H5 I5 hgs
  · exact ⟨.bl _, H', hback _ _ I', rfl, q⟩
  · exact ⟨.bl _, H', hback _ _ I', rfl, q⟩

theorem pe_all {k : Nat} {c P : Addr} {elt tg iter : Expr} {p pos gpos : Pos} {scope : Scope} {own : List (Str × Nat)} {wi : TI} {g : TG} {te : TE}
    (hr : Room k X.A) (hgl : Gl X "all") (hm : X.mg "all" = none) (TB : GxR.TabB X.base X.mg c P) (hcode : X.env.code = .ref c) (hN : X.N.Nodup) (ok : BlkOk X.N X.env.scope scope own) (hco : scope.isCoroutine = false) (hcell : ∀ y ∈ scope.names, y.2 ≠ .cell) (h0 : scope.names.lookup (".0" : Str) = some NameKind.local)
    (hi : PI X tg iter wi) (hs : ∀ v, genFold iter X.env v = pure v)
    (hg : ∀ (s : Shared) (H : Hp) (C : Addr) (code : Value) (fp : List Addr) (pn : List (Addr × Obj)), PG (gCx X X.A.in1.in1 s H (genEnv scope (cloFrom X.env.cells scope.names []) C code builtinsNs X.env) fp pn) tg g)
    (he : ∀ (s : Shared) (H : Hp) (C : Addr) (code : Value) (fp : List Addr) (pn : List (Addr × Obj)), PE (gCx X X.A.in1.in1 s H (genEnv scope (cloFrom X.env.cells scope.names []) C code builtinsNs X.env) fp pn) elt te)
    (hst : starEach [.GeneratorExp elt [⟨tg, iter, [], 0⟩] scope gpos] X.env = (false, eval (.GeneratorExp elt [⟨tg, iter, [], 0⟩] scope gpos) X.env) :: starEach [] X.env := by rfl) :
    PE X (.Call (.Name "all" p) [.GeneratorExp elt [⟨tg, iter, [], 0⟩] scope gpos] [] pos) (tAny false P wi g te (own.map (·.2))) := by
  refine ⟨fun pins s σ H Q I h => ?_⟩
  refine wpAny_Call_Name_kw (ld_blt I hgl hm PyProof.Rows.boot_all ?_)
  refine PyProof.Rows.callWith_builtin1 ?_ hst (by rfl)
  rw [hst]
  show wpAny _ _ (spliced ((false, eval (.GeneratorExp elt [⟨tg, iter, [], 0⟩] scope gpos) X.env) :: backTo pos (starEach [] X.env))) _ _ s
  refine Calls.spliced_cons (gen_make (d := false) (Q := Q) hr TB hcode hN ok hco hcell h0 hi hs hg he I h fun G σw a gn n s5 H5 ep ew I5 hgs hgen hback => ?_)
  refine Calls.spliced_nil ?_
  refine call_function_tree F.kind_all F.plain_all F.entry_all (F.args_all1 _) ?_
  unfold Builtin.«all»
  refine wpAny_bind (m := oneArg "all" _) (wpAny_pure ?_)
  refine wpAny_bind (wpAny_pyIter_gen (hgen _ _ I5) ?_)
  refine wpAny_pure ⟨plainId_quiet F.plain_all_loop _, ?_⟩
  rw [← ep, ← ew]
  refine gen_all (G := G) (σw := σw) (Qt := fun H => Q (.bl false) H) (Qf := fun H => Q (.bl (!false)) H) (A := X.A) hr.hd hr.depth hgen (fun H' s' I' q => ?_) (fun H' s' I' q => ?_) n s5 H5 I5 hgs
  · exact ⟨.bl _, H', hback _ _ I', rfl, q⟩
  · exact ⟨.bl _, H', hback _ _ I', rfl, q⟩
end
end DL

/-! any, all: the mirror; defs with a code object that is known. -/
namespace DL
open PySem PySem.Spec L2
def anyG (d : Bool) (vs : List Nat) (t : Tg) (elt : M D) : List D → M Bool
  | [], s => .ok (!d) s
  | x :: r, s => match t x s with
    | none => .bad
    | some s1 => (elt s1).bind fun y s2 => match y with
      | .bool b => if b = d then .ok d (wipeS s2 vs) else anyG d vs t elt r (wipeS s2 vs)
      | _ => .bad
def mAny (d : Bool) (vs : List Nat) (fi : M (List D)) (t : Tg) (elt : M D) : M D := fun s => (fi s).bind fun ds s1 => if noOwn vs s1 = true then match anyG d vs t elt ds (wipeS s1 vs) with
    | .ok b s2 => .ok (.bool b) (putS s1 s2 vs)
    | _ => .bad
  else .bad
section
variable {c : Cf} {X : Cx} {W : WX} {a b : Expr} {f : M D} {ft : M Bool} {fs : M (List D)} {g : G} {pos : Pos}
/-- behind a generator expression -/
theorem Rel.ungen {O A : List Addr} {σ : St} {H1 H' : Hp} {s1 sf : Sts} {vs : List Nat} (r1 : Rel c O A σ H1 s1) (st : Stp A H1 H') (no : noOwn vs s1 = true) (r : Rel c O A (L2.wipe σ vs) H' sf) (hv : ∀ v ∈ vs, c.np ≤ v) :
    Rel c O A σ H' (putS s1 sf vs) := by
  have f : ∀ (j : Nat) (y : Sl), (putS s1 sf vs)[j]? = some y → (j ∈ vs ∧ s1[j]? = some y ∧ y.ow = false) ∨ (j ∉ vs ∧ sf[j]? = some y) := fun j y h => by
    by_cases hj : j ∈ vs
    · have hl : j < sf.length := by
        have := (List.getElem?_eq_some_iff.mp h).1
        rw [putS_len] at this
        exact this
      rw [putS_in hj hl] at h
      obtain ⟨x, e, n⟩ := noOwn_not no hj
      rw [e] at h
      have h := Option.some.inj h
      have h : x = y := h
      subst h
      exact .inl ⟨hj, e, n⟩
    · rw [putS_out hj] at h
      exact .inr ⟨hj, h⟩
  refine ⟨by rw [putS_len, ← r.len, wipe_length], r1.sub, r.alv, fun j y h => ?_, fun j k ds es l h1 h2 o1 o2 h3 h4 => ?_, r.kp, r1.fr, r1.z0, r1.o0, fun q hq => ?_, r.tb⟩
  · rcases f j y h with ⟨hj, h, n⟩ | ⟨hj, h⟩
    · have z := r1.slot j y h
      cases y with
      | un => trivial
      | own ds => cases n
      | dic b => cases n
      | dat d =>
        obtain ⟨v, e, q⟩ := z
        exact ⟨v, e, Sub.dp (st.fwd r1.sub) q⟩
    · have z := r.slot j y h
      rw [wipe_out hj] at z
      exact z
  · rcases f j _ h1 with ⟨_, _, n⟩ | ⟨hj, h1⟩
    · rw [n] at o1; cases o1
    · rcases f k _ h2 with ⟨_, _, n⟩ | ⟨hk, h2⟩
      · rw [n] at o2; cases o2
      · refine r.inj j k ds es l h1 h2 o1 o2 ?_ ?_
        · rw [wipe_out hj]; exact h3
        · rw [wipe_out hk]; exact h4
  · obtain ⟨h1, h2, ds, h3⟩ := r.pn q hq
    have hn : q.1 ∉ vs := fun z => by
      have := hv _ z
      omega
    refine ⟨h1, ?_, ds, ?_⟩
    · rw [wipe_out hn] at h2; exact h2
    · rw [putS_out hn]; exact h3
theorem grow_tab {P : Addr} {H H' : Hp} (hu : ∀ p ∈ c.T, p.1 = P → p.2 = none) (h : GxR.TabG H P) (t : GxR.Tabbed P H H') : Grow c H H' := by
  obtain ⟨ps, e, _⟩ := h
  refine ⟨fun a o ea n => ?_, fun tb Q hQ => ?_⟩
  · have ne : a ≠ P := fun z => by
      rw [z, e] at ea
      cases ea
      exact n ps rfl
    rw [t.2 a ne]
    exact ea
  · by_cases z : Q.1 = P
    · obtain ⟨qs, e2, q2⟩ := t.1
      exact ⟨qs, by rw [z]; exact e2, q2, fun q hq => by rw [hu Q hQ z] at hq; cases hq⟩
    · obtain ⟨qs, e2, q2, q3⟩ := tb Q hQ
      refine ⟨qs, by rw [t.2 Q.1 z]; exact e2, q2, fun q hq pos cv hc => ?_⟩
      obtain ⟨cc, a1, a2⟩ := q3 q hq pos cv hc
      refine ⟨cc, a1, ?_⟩
      rw [t.2 cc (fun y => ?_)]
      · exact a2
      · rw [y, e] at a2
        cases a2
theorem sem_any {P : Addr} {d : Bool} {wi : TI} {vs : List Nat} {t : Tg} {elt : M D} (hP : GxIn c.T P) (hv : ∀ v ∈ vs, c.np ≤ v) (si : SemI c W wi fs) : SemE c W (tAny d P wi (tgB c vs t) (teB c Wno elt) vs) (mAny d vs fs t elt) := by
  intro O A σ H s r Q w
  refine si O A σ H s r _ (Wp.mono (Wp.bind w) ?_)
  intro ds s1 H0 _ f0 r0 w0 J wk
  have tg0 : GxR.TabG H0 P := by
    obtain ⟨ps, e1, e2, _⟩ := r0.tb (P, none) hP.1
    exact ⟨ps, e1, e2⟩
  refine ⟨tg0, fun H1 tab => ?_⟩
  have gr0 : Grow c H0 H1 := grow_tab hP.2 tg0 tab
  have r1 := r0.grow gr0
  have w1 := Wp.fwd (gr0.stp A) w0
  by_cases no : noOwn vs s1 = true
  · rw [if_pos no] at w1
    cases hr : anyG d vs t elt ds (wipeS s1 vs) with
    | err x s2 => rw [hr] at w1; exact w1.elim
    | bad => rw [hr] at w1; exact w1.elim
    | ok bv sf =>
      rw [hr] at w1
      have w1 : Wp c W O A σ H1 (.ok (.bool bv) (putS s1 sf vs)) (PV c O Q) := w1
      refine ⟨fun i m H' => m = ds.length - i ∧ i ≤ ds.length ∧ ∃ s' : Sts, Stp A H1 H' ∧ Rel c O A (wipe σ vs) H' s' ∧ anyG d vs t elt (ds.drop i) s' = .ok bv sf,
        ⟨ds.length, by simp, Nat.zero_le _, wipeS s1 vs, Stp.refl _ _, r1.wipe hv, by rw [List.drop_zero]; exact hr⟩, ?_⟩
      rintro i m H' ⟨rfl, hi, s', st, r', hl⟩
      have fw : Fwd O H0 O H' := (gr0.fwd O).trans (st.fwd r1.sub)
      by_cases hlt : i < ds.length
      · refine .inr ?_
        obtain ⟨hgo, hy⟩ := wk.go i O H' hlt fw
        refine ⟨hgo, fun H2 => i + 1 ≤ ds.length ∧ ∃ s' : Sts, Stp A H1 H2 ∧ Rel c O A (wipe σ vs) H2 s' ∧ anyG d vs t elt (ds.drop (i + 1)) s' = .ok bv sf, fun H2 h => ⟨ds.length - (i + 1), by omega, rfl, h⟩, fun x H2 y => ?_⟩
        obtain ⟨gr, dx, hd, qd⟩ := hy x H2 y
        have e : ds.drop i = dx :: ds.drop (i + 1) := by
          obtain ⟨h1, h2⟩ := List.getElem?_eq_some_iff.mp hd
          rw [← h2]
          exact List.drop_eq_getElem_cons hlt
        rw [e] at hl
        unfold anyG at hl
        cases z : t dx s' with
        | none => rw [z] at hl; cases hl
        | some s2 =>
          rw [z] at hl
          have hl : (elt s2).bind (fun y s2 => match y with
            | .bool b => if b = d then .ok d (wipeS s2 vs) else anyG d vs t elt (ds.drop (i + 1)) (wipeS s2 vs)
            | _ => .bad) = .ok bv sf := hl
          refine ⟨O, A, s', dx, s2, r'.grow gr, qd, z, fun σ2 b2 r2 => ⟨wipe_but b2, ?_⟩⟩
          have wb : wipe σ2 vs = wipe σ vs := wipe_but b2
          refine ⟨O, A, s2, r2, ?_⟩
          cases ze : elt s2 with
          | err _ _ => rw [ze] at hl; cases hl
          | bad => rw [ze] at hl; cases hl
          | ok yd s3 =>
            rw [ze] at hl
            intro H3 st3 r3 v qv
            have st13 : Stp A H1 H3 := (st.trans (gr.stp A)).trans st3
            cases yd with
            | bool b =>
              have ev := dp_bool qv
              have hl : (if b = d then Rs.ok d (wipeS s3 vs) else anyG d vs t elt (ds.drop (i + 1)) (wipeS s3 vs)) = .ok bv sf := hl
              refine ⟨b, ev, ?_⟩
              have r4 := r3.wipe hv
              rw [wb] at r4
              by_cases hb : b = d
              · rw [if_pos hb] at hl ⊢
                cases hl
                exact w1 H3 st13 (r1.ungen st13 no r4 hv) _ (.bl _)
              · rw [if_neg hb] at hl ⊢
                exact ⟨hlt, wipeS s3 vs, st13, r4, hl⟩
            | none => cases hl
            | int _ => cases hl
            | str _ => cases hl
            | list _ => cases hl
            | tuple _ => cases hl
            | dict _ => cases hl
      · have e : i = ds.length := by omega
        subst e
        rw [List.drop_length] at hl
        have hl : Rs.ok (!d) s' = .ok bv sf := hl
        cases hl
        exact .inl ⟨wk.stop _ O H' (Nat.le_refl _) fw, w1 H' st (r1.ungen st no r' hv) _ (.bl _)⟩
  · rw [if_neg no] at w1
    exact w1.elim
abbrev GenE (c : Cf) (X : Cx) (k : Nat) (scope : Scope) (elt : Expr) (f : M D) : Prop := ∀ (s : Shared) (H : Hp) (C : Addr) (code : Value) (fp : List Addr) (pn : List (Addr × Obj)), Room k (gCx X X.A.in1.in1 s H (genEnv scope (cloFrom X.env.cells scope.names []) C code builtinsNs X.env) fp pn).A →
  DE c (gCx X X.A.in1.in1 s H (genEnv scope (cloFrom X.env.cells scope.names []) C code builtinsNs X.env) fp pn) Wno elt f
abbrev GenG (c : Cf) (X : Cx) (scope : Scope) (tg : Expr) (vs : List Nat) (t : Tg) : Prop := ∀ (s : Shared) (H : Hp) (C : Addr) (code : Value) (fp : List Addr) (pn : List (Addr × Obj)), DG c (gCx X X.A.in1.in1 s H (genEnv scope (cloFrom X.env.cells scope.names []) C code builtinsNs X.env) fp pn) tg vs t
theorem room_gen {k : Nat} {A : Around} (h : Room (k + 1) A) (env : Env) : Room k (A.in1.in1.deeper env) := by
  obtain ⟨h1, h2, h3⟩ := h
  refine ⟨h1, ?_, ?_⟩
  · show A.depth + 1 + 3 * k + 5 < _
    omega
  · show A.units + 1 + 1 + 3 + 16 * k + 200 < _
    omega
theorem takes_no {X : Cx} : Takes X Wno := takes0
theorem d_any {k : Nat} {cc P : Addr} {elt tg iter : Expr} {p gpos : Pos} {scope : Scope} {own : List (Str × Nat)} {t : Tg} {fe : M D} (hr : Room (k + 1) X.A) (hP : GxIn c.T P) (TB : GxR.TabB X.base X.mg cc P) (hcode : X.env.code = .ref cc) (hm : X.mg "any" = none) (hN : X.N.Nodup) (ok : BlkOk X.N X.env.scope scope own)
    (hi : DI c X W tg iter fs) (hg : GenG c X scope tg (own.map (·.2)) t) (he : GenE c X k scope elt fe) (hgl : Gl X "any" := by rfl) (hco : scope.isCoroutine = false := by rfl) (hcell : ∀ y ∈ scope.names, y.2 ≠ .cell := by decide +kernel) (h0 : scope.names.lookup (".0" : Str) = some NameKind.local := by rfl) (hs : ∀ v, genFold iter X.env v = pure v := by intro _; rfl)
    (hv : ∀ v ∈ own.map (·.2), c.np ≤ v := by exact of_decide_eq_true rfl) (hst : starEach [.GeneratorExp elt [⟨tg, iter, [], 0⟩] scope gpos] X.env = (false, eval (.GeneratorExp elt [⟨tg, iter, [], 0⟩] scope gpos) X.env) :: starEach [] X.env := by rfl) :
    DE c X W (.Call (.Name "any" p) [.GeneratorExp elt [⟨tg, iter, [], 0⟩] scope gpos] [] pos) (mAny true (own.map (·.2)) fs t fe) := by
  obtain ⟨wi, pi, si⟩ := hi
  exact ⟨_, pe_any hr hgl hm TB hcode hN ok hco hcell h0 pi hs (fun s H C code fp pn => dg_best (hg s H C code fp pn)) (fun s H C code fp pn => de_best (he s H C code fp pn (room_gen hr _))) hst, sem_any hP hv si⟩
theorem d_all {k : Nat} {cc P : Addr} {elt tg iter : Expr} {p gpos : Pos} {scope : Scope} {own : List (Str × Nat)} {t : Tg} {fe : M D} (hr : Room (k + 1) X.A) (hP : GxIn c.T P) (TB : GxR.TabB X.base X.mg cc P) (hcode : X.env.code = .ref cc) (hm : X.mg "all" = none) (hN : X.N.Nodup) (ok : BlkOk X.N X.env.scope scope own)
    (hi : DI c X W tg iter fs) (hg : GenG c X scope tg (own.map (·.2)) t) (he : GenE c X k scope elt fe) (hgl : Gl X "all" := by rfl) (hco : scope.isCoroutine = false := by rfl) (hcell : ∀ y ∈ scope.names, y.2 ≠ .cell := by decide +kernel) (h0 : scope.names.lookup (".0" : Str) = some NameKind.local := by rfl) (hs : ∀ v, genFold iter X.env v = pure v := by intro _; rfl)
    (hv : ∀ v ∈ own.map (·.2), c.np ≤ v := by exact of_decide_eq_true rfl) (hst : starEach [.GeneratorExp elt [⟨tg, iter, [], 0⟩] scope gpos] X.env = (false, eval (.GeneratorExp elt [⟨tg, iter, [], 0⟩] scope gpos) X.env) :: starEach [] X.env := by rfl) :
    DE c X W (.Call (.Name "all" p) [.GeneratorExp elt [⟨tg, iter, [], 0⟩] scope gpos] [] pos) (mAny false (own.map (·.2)) fs t fe) := by
  obtain ⟨wi, pi, si⟩ := hi
  exact ⟨_, pe_all hr hgl hm TB hcode hN ok hco hcell h0 pi hs (fun s H C code fp pn => dg_best (hg s H C code fp pn)) (fun s H C code fp pn => de_best (he s H C code fp pn (room_gen hr _))) hst, sem_any hP hv si⟩
end
end DL

/-! except .. as; defs with a code object that is known; the end. -/
namespace DL
open PySem PySem.Spec L2
section
variable {c : Cf} {X : Cx} {W : WX} {a b : Expr} {f : M D} {fs fp fq : M (List D)} {g : G} {pos : Pos}
def sTryIs (i : Nat) (exm kb : Str → Option Bool) (gb : G) : G := fun s => match gb s with
  | .err y s' => (match exm y with
    | some true => (match kb y with
      | some b => if i < s'.length then .ret (.bool b) s' else .bad
      | none => .bad)
    | some false => .err y s'
    | none => .bad)
  | r => r
theorem s_tryIs (i : Nat) {x n : Str} {body : List Stmt} {np pos' rpos : Pos} {e : Expr} {gb : G} {exm kb : Str → Option Bool} (hN : X.N.Nodup) (hc : Names X x (.ref (c.ca x))) (hx : ∀ y b, exm y = some b → PySem.W.exmOne X.K (.ref (c.ca y)) (.ref (c.ca x)) = some b) (tk : Takes X W)
    (hb : ∀ (W' : WX) (pn : List (Addr × Obj)) (xe : Value → Shared → Prop), Takes (X.tr pn xe) W' → PassesOwn (model X.prog X.w) X.A X.env xe → DSs c (X.tr pn xe) W' body gb)
    (he : ∀ y b, kb y = some b → ∀ (a : Addr) (oe : Obj) (pn : List (Addr × Obj)), Zc (.ref (c.ca y)) none oe → (∃ vs, oe.data = .fields vs) → ∃ te : TE, PE (X.suite a ((a, oe) :: pn)) e te ∧ ∀ σ H Q, σ[i]? = some (some (.ref a)) → Q (.bl b) H → te σ H Q)
    (hi : X.N[i]? = some n := by rfl) (hln : X.env.kindOf n = some .local := by rfl) (hs : X.stack = X.env :: X.outer := by rfl) (hf : X.env.frame = some X.env.locals := by rfl) :
    DS c X W (.Try body [.ExceptHandler (some (.Name x np)) (some n) [.Return (some e) rpos] pos'] [] [] pos) (sTryIs i exm kb gb) := by
  refine ⟨_, ps_try_as (i := i) (tb := fun W' => tuB c W' gb) (ts := fun a cls d => fun E σ H => ∃ y b, cls = .ref (c.ca y) ∧ d = none ∧ kb y = some b ∧ σ[i]? = some (some (.ref a)) ∧ E.rt (.bl b) H) hs hf hN hi hln hc tk (fun W' pn xe t p => ds_best (hb W' pn xe t p)) (fun a oe cls d pn hz hfl => ?_), ?_⟩
  · refine ⟨fun pins s σ H E I h => ?_⟩
    obtain ⟨y, b, rfl, rfl, hk, hσ, q⟩ := h
    obtain ⟨te, pe, se⟩ := he y b hk a oe pn hz hfl
    exact (pss_one (ps_ret pe)).run pins s σ H E I (se σ H E.rt hσ q)
  intro O A σ H s r E w
  refine ⟨O, A, s, r, ?_⟩
  unfold sTryIs at w
  cases z : gb s with
  | nx s' => rw [z] at w; exact w
  | ret d s' => rw [z] at w; exact w
  | brk s' => rw [z] at w; exact w
  | ct s' => rw [z] at w; exact w
  | bad => rw [z] at w; exact w
  | err y s' =>
    rw [z] at w
    have w : WpS c W O H (match exm y with | some true => (match kb y with | some b => if i < s'.length then .ret (.bool b) s' else .bad | none => .bad) | some false => .err y s' | none => .bad) E := w
    intro O' A' σ' H' fw r'
    cases e : exm y with
    | none => rw [e] at w; exact w.elim
    | some bv =>
      rw [e] at w
      refine ⟨bv, hx y bv e, fun hb2 a ha => ?_, fun hb2 => ?_⟩
      · subst hb2
        cases ek : kb y with
        | none =>
          have w : WpS c W O H (match kb y with | some b => if i < s'.length then .ret (.bool b) s' else .bad | none => .bad) E := w
          rw [ek] at w; exact w.elim
        | some b =>
          have w : WpS c W O H (match kb y with | some b => if i < s'.length then .ret (.bool b) s' else .bad | none => .bad) E := w
          rw [ek] at w
          have w : WpS c W O H (if i < s'.length then .ret (.bool b) s' else .bad) E := w
          by_cases hl : i < s'.length
          rotate_left
          · rw [if_neg hl] at w; exact w.elim
          rw [if_pos hl, ] at w
          rw [← r'.len] at hl
          exact ⟨y, b, rfl, rfl, ek, by rw [List.getElem?_set_self hl], w O' A' σ' H' _ fw r' (.bl b)⟩
      · subst hb2
        exact w O' A' σ' H' fw r'
end

section
variable {P : Program} {w : World} {K : PySem.W.Frag} {mg : Str → Option Value} {base : Heap}
/-- a def whose code object stands at c -/
structure FunC (K : PySem.W.Frag) (x qual : Str) (st : Stmt) (f : Addr) (fd : FuncData) (c : Addr) : Prop where
  ex : ∃ (oc : Value) (od : Option Addr) (kV doc pm : Value) (an : Option Addr) (ct : Value) (osl : Array (Option Value)),
    fd = PySem.W.fnOf x qual (defArgs st) (defBody st) (defScope st) .none kV doc pm an (.ref c) ct ∧ K.lookup f = some ⟨oc, od, .func fd, osl⟩ ∧ PySem.W.codeIn K (.ref c) qual = true
theorem funC_mk {x qual : Str} {st : Stmt} {f cc PT : Addr} {oc : Value} {od an : Option Addr} {osl : Array (Option Value)} {kV doc pm cdv ct : Value} (h1 : PySem.W.nsIn K mainGlobals x = some (some (.ref f))) (l : K.lookup f = some ⟨oc, od, .func (PySem.W.fnOf x qual (defArgs st) (defBody st) (defScope st) .none kV doc pm an cdv ct), osl⟩)
    (c : PySem.W.codeIn K cdv qual = true) (ht : PySem.W.tabIn K x = some (cc, PT)) : FunC K x qual st f (PySem.W.fnOf x qual (defArgs st) (defBody st) (defScope st) .none kV doc pm an cdv ct) cc := by
  have e : cdv = .ref cc := by
    unfold PySem.W.tabIn at ht
    rw [h1] at ht
    have ht : (match K.lookup f with
      | some ⟨_, _, .func fd, _⟩ => (match fd.code with
        | .ref c => (match K.lookup c with
          | some ⟨_, _, .fields vs, _⟩ => (match (vs[11]? : Option Value) with
            | some (.ref P) => some (c, P)
            | _ => none)
          | _ => none)
        | _ => none)
      | _ => none) = some (cc, PT) := ht
    rw [l] at ht
    have ht : (match (generalizing := false) cdv with
        | .ref c => (match K.lookup c with
          | some ⟨_, _, .fields vs, _⟩ => (match (vs[11]? : Option Value) with
            | some (.ref P) => some (c, P)
            | _ => none)
          | _ => none)
        | _ => none) = some (cc, PT) := ht
    cases cdv with
    | ref c0 =>
      have ht : (match K.lookup c0 with
          | some ⟨_, _, .fields vs, _⟩ => (match (vs[11]? : Option Value) with
            | some (.ref P) => some (c0, P)
            | _ => none)
          | _ => none) = some (cc, PT) := ht
      split at ht
      · split at ht
        · cases ht; rfl
        · cases ht
      · cases ht
    | _ => cases ht
  subst e
  exact ⟨oc, od, kV, doc, pm, an, ct, osl, rfl, l, c⟩
theorem FunC.okX {x qual : Str} {st : Stmt} {f cc : Addr} {fd : FuncData} {N ps : List Str} {k : Nat} {sp : Sp} (F : FunC K x qual st f fd cc) (S : FnScope N ps (defScope st)) (len : ∀ vs H Q E, sp vs H Q E → vs.length = ps.length)
    (hbody : ∀ (A : Around) (outer : List Env) (s : Shared) (H : Hp) (vs : List V) (Q : VK) (E : XK), Room k (A.deeper (PyProof.Rows.envOfC qual (defScope st) s.heap.objs.size f (.ref cc))) → sp vs H Q E →
      ∃ t, PSs (cxOf (L2.CX P w) P w K mg base N qual (defScope st) f (.ref cc) A outer s H E) (defBody st) t ∧ t { nx := fun _ H' => Q .non H', rt := Q } (start N vs) H) : FnOk P w K mg base (L2.CX P w) (k + 1) f fd ps sp := by
  obtain ⟨oc, od, kV, doc, pm, an, ct, osl, rfl, lk, hcd⟩ := F.ex
  exact fn_of lk hcd S len fun A outer s H vs Q E hr hsp => hbody A outer s H vs Q E hr hsp
/-- a def keeps the promise of its mirror -/
theorem fn_okC {x qual : Str} {st : Stmt} {f : Addr} {fd : FuncData} {N ps : List Str} {k : Nat} {T : List (Addr × Option Str)} {ca : Str → Addr} {g : G} {np n : Nat} {cc : Addr} (F : FunC K x qual st f fd cc) (S : FnScope N ps (defScope st)) (hnp : ps.length = np) (hn : N.length = n) (hle : np ≤ n)
    (hb : ∀ (pin : List (Nat × Addr)) (O0 : List Addr) (H0 : Hp) (A : Around) (outer : List Env) (s : Shared) (H : Hp) (E : XK), Room k (A.deeper (PyProof.Rows.envOfC qual (defScope st) s.heap.objs.size f (.ref cc))) →
      DSs ⟨K, T, ca, np, pin, O0, H0⟩ (cxOf (L2.CX P w) P w K mg base N qual (defScope st) f (.ref cc) A outer s H E) (Wfn E) (defBody st) g) : FnOk P w K mg base (L2.CX P w) (k + 1) f fd ps (spF K T ca np (run n g)) := by
  refine F.okX S (fun vs H Q E h => ?_) (fun A outer s H vs Q E hr h => ?_)
  · obtain ⟨O, A, ss, b, _⟩ := h
    rw [b.lv, hnp]
  · obtain ⟨O, A', ss, b, h⟩ := h
    obtain ⟨tu, pu, su⟩ := hb (pinOf 0 vs ss) O H A outer s H E hr
    refine ⟨tu, pu, ?_⟩
    have rel := start_rel (ca := ca) (N := N) b (by omega)
    refine su O _ (L2.start N vs) H _ rel _ ?_
    have after : ∀ O' A'' σ' H' s', Rel ⟨K, T, ca, np, pinOf 0 vs ss, O, H⟩ O' A'' σ' H' s' → AfterC K T O A' H H' vs (outs ss s') := fun O' A'' σ' H' s' r => after_of rfl rfl rfl b r
    have down : ∀ O' A'' σ' H' s' v d, Rel ⟨K, T, ca, np, pinOf 0 vs ss, O, H⟩ O' A'' σ' H' s' → Dp K (cut O' H') v d → Dp K (cut O H') v d := fun O' A'' σ' H' s' v d r q => by
      refine Sub.dp (fun a o e n => ?_) q
      obtain ⟨k1, k2⟩ := cut_some e
      rw [cut_out (fun z => k1 (r.o0 a z))]
      exact k2
    unfold run at h
    rw [hn]
    cases z : g (ss ++ List.replicate (n - ss.length) .un) with
    | nx s' =>
      rw [z] at h
      intro O' A'' σ' H' _ r
      exact h _ _ (after _ _ _ _ _ r) .non
    | ret d s' =>
      rw [z] at h
      intro O' A'' σ' H' v _ r q
      exact h _ _ (after _ _ _ _ _ r) (down _ _ _ _ _ _ _ r q)
    | err y s' =>
      rw [z] at h
      intro O' A'' σ' H' _ r
      exact h _ (after _ _ _ _ _ r)
    | brk s' => rw [z] at h; exact h.elim
    | ct s' => rw [z] at h; exact h.elim
    | bad => rw [z] at h; exact h.elim
end
/-! ### the end -/
theorem law_sp {K : PySem.W.Frag} {T : List (Addr × Option Str)} {ca : Str → Addr} {F : FnM} {H : Hp} {a : Addr} {ns : List Int} (hH : ∀ p ∈ T, H p.1 = some (.tbl #[])) (hS : SqL K H a (ns.map V.int)) (h : ∃ ss', F [.dat (.list (ns.map .int))] = .ok (.bool true) ss') :
    spF K T ca 1 F [.ref a] H (fun v _ => v = .bl true) fun _ _ _ => False := by
  obtain ⟨ss', e⟩ := h
  have ce : cut [] H = H := by
    funext x
    exact cut_out (by simp)
  have ints0 : ∀ ns : List Int, DpAll K H (ns.map V.int) (ns.map PyData.int) := fun ns => by
    induction ns with
    | nil => exact .nil
    | cons i r ih => exact .cons (.int i) ih
  refine ⟨[], [], [.dat (.list (ns.map .int))], ⟨rfl, rfl, fun a h => h, fun a h => by simp at h, fun i x hx => ?_, fun i b h1 => ?_, fun i j ds es l h1 _ _ _ => ?_, fun P hP => ?_⟩, ?_⟩
  · match i, hx with
    | 0, hx =>
      cases hx
      exact ⟨.ref a, rfl, by rw [ce]; exact .lst hS (ints0 ns)⟩
    | i + 1, hx => simp at hx
  · match i, h1 with
    | 0, h1 => cases h1
    | i + 1, h1 => simp at h1
  · match i, h1 with
    | 0, h1 => cases h1
    | i + 1, h1 => simp at h1
  · refine ⟨#[], hH P hP, trivial, fun q _ pos cv hc => ?_⟩
    have z : PySem.codeAmong pos [] = some cv := hc
    simp [PySem.codeAmong] at z
  · rw [e]
    intro v H' _ q
    exact dp_bool q
theorem tab_any {p : Program} {loose : List Str} {mean : ExcName → Option Value} {mg mb : Str → Option Value} {h : Heap} {K : PySem.W.Frag} {x : Str} {c P : Addr} (T : PyProof.Rows.Top p loose mean mg mb h) (X : K.In h) (hr : ((PyProof.Rows.recsOf p).any fun e => e.name == x) = true) (ht : PySem.W.tabIn K x = some (c, P)) :
    PySem.W.CodeHd h c P ∧ h.get? P = some { cls := .none, data := .fields #[] } := by
  have : ∃ d, (PyProof.Rows.recsOf p).find? (fun e => e.name == x) = some d := by
    cases e : (PyProof.Rows.recsOf p).find? (fun e => e.name == x) with
    | some d => exact ⟨d, rfl⟩
    | none =>
      have := List.find?_eq_none.mp e
      obtain ⟨d, hd, q⟩ := List.any_eq_true.mp hr
      exact absurd q (this d hd)
  obtain ⟨d, hd⟩ := this
  exact PySem.W.tab_of T X hd ht
theorem walk_top {l : PySem.W.OpenLaw} {n k : Nat} {q : Program} {loose : List Str} {XP : (Str → Option Value) → Heap → Prop} {YP : World → Heap → Prop} {d : DefRec} {K : Params → PySem.W.Frag} {x : Str}
    (hn : l.most = some n) (hn2 : n ≤ sizeLine) (hdf : d.params.defaults = []) (hr : Room k callerA) (hY : ∀ (w : World) (h : Heap), YP w h → (K w.params).In h)
    (F : ∀ (w : World) (mg mb : Str → Option Value) (fa : Addr) (h : Heap) (ls : List Str) (mean : ExcName → Option Value), PyProof.Rows.Top q ls mean mg mb h → (K w.params).In h → mg d.name = some (.ref fa) → LamX.LawAtS l w (K w.params) (L2.CX l.prog w) k n x mg fa h) :
    PySem.W.WalkO q loose XP YP l.row.toRowW d [] (fun f vs => PySem.call f vs) := by
  refine Att.attach_callB hn hdf fun w s₀ s₁ mg mb fa o pm cd doc a vs ns G Y ho hd hcd hmg hobj hints hlen hbits hg => ?_
  have KX := hY w _ Y
  obtain ⟨fd, cs, sp, hT, nT, C, hb, hsp, hF⟩ := F w mg mb fa _ _ _ G.T KX hmg
  refine LamX.law_callTs KX G.T.g G.T.b G.T.builtins G.T.nolimit hg hT nT C G.T.bmain hobj hints (Nat.le_trans hlen hn2) hr hF hb (fun H hH hS => hsp H a ns hlen hbits hH hS) fun H e s' hx => ?_
  obtain ⟨_, _, _, _, _, _, _, _, _, _, _, _, hW⟩ := hx
  exact hW
theorem tb_of {base : Heap} {mg : Str → Option Value} {c P : Addr} (h : LamX.TabB base mg c P) : GxR.TabB base mg c P := ⟨h.code, h.bm, h.gP⟩
end DL

/-! defs that hand back a new list; short words. -/
namespace DL
open PySem PySem.Spec L2
def WpL (c : Cf) (O : List Addr) (H : Hp) (r : Rs (List D)) (E : Ends) : Prop := match r with
  | .ok ds s' => ∀ O' A' σ' H' p vs, Fwd O H O' H' → Rel c O' A' σ' H' s' → H' p = none → DpAll c.K (cut O' H') vs ds → E.rt (.ref p) (upd H' p (.lst vs))
  | _ => False
def SemL (c : Cf) (tu : TS) (g : M (List D)) : Prop := ∀ O A σ H s, Rel c O A σ H s → ∀ E : Ends, WpL c O H (g s) E → tu E σ H
def DSL (c : Cf) (X : Cx) (sts : List Stmt) (g : M (List D)) : Prop := ∃ tu, PSs X sts tu ∧ SemL c tu g
def lSeq (g : G) (h : M (List D)) : M (List D) := fun s => match g s with
  | .nx s' => h s'
  | _ => .bad
section
variable {c : Cf} {X : Cx} {W : WX} {a b : Expr} {f : M D} {fs : M (List D)} {g : G} {pos : Pos}
theorem l_ret (he : DF c X W a fs) : DSL c X [.Return (some a) pos] fs := by
  obtain ⟨te, pe, se⟩ := he
  refine ⟨_, pss_one (ps_ret pe), ?_⟩
  intro O A σ H s r E w
  refine se O A σ H s r _ ?_
  cases z : fs s with
  | err _ _ => rw [z] at w; exact w.elim
  | bad => rw [z] at w; exact w.elim
  | ok ds s' =>
    rw [z] at w
    intro H' st r' p vs hp q
    exact w O A σ H' p vs (st.fwd r.sub) r' hp q
theorem l_cons {st : Stmt} {rest : List Stmt} {h : M (List D)} (h1 : DS c X W st g) (h2 : DSL c X rest h) : DSL c X (st :: rest) (lSeq g h) := by
  obtain ⟨t, p, s⟩ := h1
  obtain ⟨u, q, s'⟩ := h2
  refine ⟨_, pss_cons p q, ?_⟩
  intro O A σ H st r E w
  refine s O A σ H st r _ ?_
  unfold lSeq at w
  cases z : g st with
  | nx st' =>
    rw [z] at w
    intro O' A' σ' H' fw r'
    refine s' O' A' σ' H' st' r' E ?_
    have w : WpL c O H (h st') E := w
    cases y : h st' with
    | err _ _ => rw [y] at w; exact w.elim
    | bad => rw [y] at w; exact w.elim
    | ok ds s2 =>
      rw [y] at w
      intro O2 A2 σ2 H2 p vs f2
      exact w O2 A2 σ2 H2 p vs (fw.trans f2)
  | brk _ => rw [z] at w; exact w.elim
  | ct _ => rw [z] at w; exact w.elim
  | ret _ _ => rw [z] at w; exact w.elim
  | err _ _ => rw [z] at w; exact w.elim
  | bad => rw [z] at w; exact w.elim
abbrev FnL := Sts → Rs (List D)
def runL (n : Nat) (g : M (List D)) : FnL := fun ss => match g (ss ++ List.replicate (n - ss.length) .un) with
  | .ok ds s => .ok ds (outs ss s)
  | _ => .bad
def spL (K : PySem.W.Frag) (T : List (Addr × Option Str)) (np : Nat) (F : FnL) : Sp := fun vs H Q E => ∃ O A ss, Before K T np O A H vs ss ∧ match F ss with
  | .ok ds ss' => ∀ p us H', AfterC K T O A H H' vs ss' → H' p = none → DpAll K (cut O H') us ds → Q (.ref p) (upd H' p (.lst us))
  | _ => False
theorem fn_okL {P : Program} {w : World} {K : PySem.W.Frag} {mg : Str → Option Value} {base : Heap} {x qual : Str} {st : Stmt} {f : Addr} {fd : FuncData} {N ps : List Str} {k : Nat} {T : List (Addr × Option Str)} {ca : Str → Addr} {g : M (List D)} {np n : Nat} (F : Fun K x qual st f fd) (S : FnScope N ps (defScope st)) (hnp : ps.length = np) (hn : N.length = n) (hle : np ≤ n)
    (hb : ∀ (pin : List (Nat × Addr)) (O0 : List Addr) (H0 : Hp) (cdv : Value) (A : Around) (outer : List Env) (s : Shared) (H : Hp) (E : XK), Room k (A.deeper (PyProof.Rows.envOfC qual (defScope st) s.heap.objs.size f cdv)) →
      DSL ⟨K, T, ca, np, pin, O0, H0⟩ (cxOf (L2.CX P w) P w K mg base N qual (defScope st) f cdv A outer s H E) (defBody st) g) : FnOk P w K mg base (L2.CX P w) (k + 1) f fd ps (spL K T np (runL n g)) := by
  refine F.okX S (fun vs H Q E h => ?_) (fun cdv A outer s H vs Q E hr h => ?_)
  · obtain ⟨O, A, ss, b, _⟩ := h
    rw [b.lv, hnp]
  · obtain ⟨O, A', ss, b, h⟩ := h
    obtain ⟨tu, pu, su⟩ := hb (pinOf 0 vs ss) O H cdv A outer s H E hr
    refine ⟨tu, pu, ?_⟩
    have rel := start_rel (ca := ca) (N := N) b (by omega)
    refine su O _ (L2.start N vs) H _ rel _ ?_
    unfold runL at h
    rw [hn]
    cases z : g (ss ++ List.replicate (n - ss.length) .un) with
    | err _ _ => rw [z] at h; exact h.elim
    | bad => rw [z] at h; exact h.elim
    | ok ds s' =>
      rw [z] at h
      intro O' A'' σ' H' p us _ r hp q
      refine h p us H' (after_of (c := ⟨K, T, ca, np, pinOf 0 vs ss, O, H⟩) rfl rfl rfl b r) hp (Sub.dpa (fun a o e n => ?_) q)
      obtain ⟨k1, k2⟩ := cut_some e
      rw [cut_out (fun z => k1 (r.o0 a z))]
      exact k2
def mCallL (np : Nat) (F : FnL) (fa : M (List D)) : M (List D) := fun s => (fa s).bind fun ds s1 => if ds.length = np then match F (ds.map .dat) with
    | .ok es _ => .ok es s1
    | _ => .bad
  else .bad
theorem sem_callL {np : Nat} {F : FnL} {ta : TA} (sa : SemA c W ta fs) : SemF c W (tCallS (spL c.K c.T np F) (WE W) ta) (mCallL np F fs) := by
  intro O A σ H s r Q w
  refine sa O A σ H s r _ (Wp.mono (Wp.bind w) ?_)
  intro ds s1 H1 _ f1 r1 w1 vs q
  by_cases hl : ds.length = np
  · rw [if_pos hl] at w1
    refine ⟨O, [], ds.map .dat, ⟨by rw [dpa_len q]; exact hl, by rw [List.length_map]; exact hl, fun a h => by simp at h, r1.alv, dat_slot q, fun i b h => (dat_dic h).elim, fun i j d1 d2 l h _ _ _ => (dat_own h).elim, r1.tb⟩, ?_⟩
    cases z : F (ds.map .dat) with
    | ok es ss' =>
      have w1 : Wp c W O A σ H1 (match F (ds.map .dat) with | .ok es _ => .ok es s1 | _ => .bad) (fun ds _ H' => ∀ p vs, H' p = none → DpAll c.K (cut O H') vs ds → Q (.ref p) (upd H' p (.lst vs))) := w1
      rw [z] at w1
      intro p us H' h hp q'
      have gr : Grow c H1 H' := ⟨fun a o e n => h.keep a o e n (by simp), fun _ => h.tb⟩
      exact w1 H' (gr.stp A) (r1.grow gr) p us hp q'
    | err _ _ =>
      have w1 : Wp c W O A σ H1 (match F (ds.map .dat) with | .ok es _ => .ok es s1 | _ => .bad) (fun ds _ H' => ∀ p vs, H' p = none → DpAll c.K (cut O H') vs ds → Q (.ref p) (upd H' p (.lst vs))) := w1
      rw [z] at w1
      exact w1.elim
    | bad =>
      have w1 : Wp c W O A σ H1 (match F (ds.map .dat) with | .ok es _ => .ok es s1 | _ => .bad) (fun ds _ H' => ∀ p vs, H' p = none → DpAll c.K (cut O H') vs ds → Q (.ref p) (upd H' p (.lst vs))) := w1
      rw [z] at w1
      exact w1.elim
  · rw [if_neg hl] at w1
    exact w1.elim
/-! ### defs by bundles -/
structure Gv (K : PySem.W.Frag) (mg : Str → Option Value) (x : Str) (st : Stmt) (ps : List Str) where
  f : Addr
  fd : FuncData
  fn : Fun K x x st f fd
  m : mg x = some (.ref f)
  kp : PySem.W.keepIn K (.ref f) = true
  bi : Binds K fd ps []
/-- .. whose code object's table grows -/
structure Gt (K : PySem.W.Frag) (mg : Str → Option Value) (x : Str) (st : Stmt) (ps : List Str) extends Gv K mg x st ps where
  cc : Addr
  PT : Addr
  fc : FunC K x x st f fd cc
theorem d_c {k np : Nat} {x : Str} {st : Stmt} {ps : List Str} {F : FnM} {p : Pos} {es : List Expr} (G : Gv X.K X.mg x st ps) (Fk : FnOk X.prog X.w X.K X.mg X.base (L2.CX X.prog X.w) k G.f G.fd ps (spF c.K c.T c.ca np F)) (hr : Room k X.A) (tk : Takes X W) (ha : DA c X W (a :: es) fs) (hg : Gl X x := by rfl) (hdb : (x == ("__debug__" : Str)) = false := by decide) (he : starEach (a :: es) X.env = (false, eval a X.env) :: starEach es X.env := by rfl) (hpl : (backTo pos (starEach es X.env)).any (·.1) = false := by rfl) :
    DE c X W (.Call (.Name x p) (a :: es) [] pos) (mCall np F fs) := d_call Fk hr tk G.m G.kp G.bi ha hg hdb he hpl
theorem f_c {k np : Nat} {x : Str} {st : Stmt} {ps : List Str} {F : FnL} {p : Pos} {es : List Expr} (G : Gv X.K X.mg x st ps) (Fk : FnOk X.prog X.w X.K X.mg X.base (L2.CX X.prog X.w) k G.f G.fd ps (spL c.K c.T np F)) (hr : Room k X.A) (tk : Takes X W) (ha : DA c X W (a :: es) fs) (hg : Gl X x := by rfl) (hdb : (x == ("__debug__" : Str)) = false := by decide) (he : starEach (a :: es) X.env = (false, eval a X.env) :: starEach es X.env := by rfl) (hpl : (backTo pos (starEach es X.env)).any (·.1) = false := by rfl) :
    DF c X W (.Call (.Name x p) (a :: es) [] pos) (mCallL np F fs) := by
  obtain ⟨ta, pa, sa⟩ := ha
  exact ⟨_, pe_callS Fk hr hg G.m G.kp G.bi (fun σ => passAt tk σ) pa hdb he hpl, sem_callL sa⟩
/-- an owned list's slice: a new list -/
def mSlF (i : Nat) (lo hi : M (Option Int)) : M (List D) := fun s => match ownAt s i with
  | none => .bad
  | some _ => (lo s).bind fun l s1 => (hi s1).bind fun u s2 => match ownAt s2 i with
    | some xs => .ok (cutD xs l u) s2
    | none => .bad
theorem f_slo (i : Nat) {x : Str} {px : Pos} {lo hi : Option Expr} {fl fh : M (Option Int)} {p2 : Pos} (hl : DP c X W lo fl) (hh : DP c X W hi fh) (hN : X.N[i]? = some x := by rfl) (hv : Vis X.env.scope x := by first | exact Or.inl rfl | exact Or.inr (Or.inl rfl) | exact Or.inr (Or.inr rfl)) (hK : c.K = X.K := by rfl)
    (hd : (x == ("__debug__" : Str)) = false := by decide) (hcd : (x == ("__classdict__" : Str)) = false := by decide) : DF c X W (.Subscript (.Name x px) (.Slice lo hi none p2) pos) (mSlF i fl fh) := by
  obtain ⟨tl, pl, sl⟩ := hl
  obtain ⟨th, ph, sh⟩ := hh
  refine ⟨_, pe_slice sl_list (pe_var hN hv hd hcd) pl ph, ?_⟩
  intro O A σ H s r Q w
  unfold mSlF at w
  cases z0 : ownAt s i with
  | none => rw [z0] at w; exact w.elim
  | some ds0 =>
    rw [z0] at w
    obtain ⟨p, us, hσ, _, _, _⟩ := rel_own r z0
    refine ⟨.ref p, hσ, ?_⟩
    refine sl O A σ H s r _ (Wp.mono (Wp.bind w) ?_)
    intro l s2 H2 _ f2 r2 w2
    refine sh O A σ H2 s2 r2 _ (Wp.mono (Wp.bind w2) ?_)
    intro u s3 H3 _ f3 r3 w3
    cases z : ownAt s3 i with
    | none => rw [z] at w3; exact w3.elim
    | some ds =>
      rw [z] at w3
      obtain ⟨p', xs, hσ', _, h1, h2⟩ := rel_own r3 z
      rw [hσ] at hσ'
      cases hσ'
      refine ⟨p, xs, rfl, SqL.of h1, fun y hy => ?_⟩
      exact w3 H3 (Stp.refl _ _) r3 y _ hy (dpa_cut h2 l u)
/-- total += e, ints -/
def addI : D → D → Option D
  | .int i, .int j => some (.int (i + j))
  | _, _ => none
theorem o_addI : Oq2 c (rI0 fun i j => .int (i + j)) addI := intop (fun i j d e H Q k => ⟨i, j, rfl, rfl, k _ fun G => by
    have e := Option.some.inj (show some (PyData.int (i + j)) = some d from e)
    subst e
    exact .int _⟩) (fun v w d e => by cases v <;> cases w <;> first | exact ⟨_, _, rfl, rfl⟩ | cases e)
/-- a promise that promises nothing -/
theorem fn_bad {P : Program} {w : World} {K : PySem.W.Frag} {mg : Str → Option Value} {base : Heap} {k : Nat} {f : Addr} {fd : FuncData} {ps : List Str} {T : List (Addr × Option Str)} {ca : Str → Addr} {np : Nat} (h : ps.length = np) : FnOk P w K mg base (L2.CX P w) k f fd ps (spF K T ca np fun _ => .bad) := by
  refine ⟨fun vs H Q E h2 => ?_, fun A outer s H args us vs Q E hr e0 hb r h2 => ?_⟩
  · obtain ⟨_, _, _, b, _⟩ := h2
    rw [b.lv, h]
  · obtain ⟨_, _, _, _, z⟩ := h2
    exact z.elim
end
theorem bt_len : bootBuiltins "len" = some (.builtin "len") := by decide +kernel
theorem bt_abs : bootBuiltins "abs" = some (.builtin "abs") := by decide +kernel
theorem bt_isinstance : bootBuiltins "isinstance" = some (.builtin "isinstance") := by decide +kernel
theorem bt_int : bootBuiltins "int" = some (.type "int") := by decide +kernel
theorem bt_tuple : bootBuiltins "tuple" = some (.type "tuple") := by decide +kernel
theorem bt_list : bootBuiltins "list" = some (.type "list") := by decide +kernel
theorem bt_str : bootBuiltins "str" = some (.type "str") := by decide +kernel
theorem bt_bool : bootBuiltins "bool" = some (.type "bool") := by decide +kernel
theorem bt_dict : bootBuiltins "dict" = some (.type "dict") := by decide +kernel
end DL

namespace DL
open PySem PySem.Spec L2
theorem bt_ValueError : bootBuiltins "ValueError" = some (.type "ValueError") := by decide +kernel
/-- e answers b in the suite that holds the exception at a in slot i -/
def IsE (X : Cx) (a : Addr) (oe : Obj) (pn : List (Addr × Obj)) (i : Nat) (e : Expr) (b : Bool) : Prop := ∃ te : TE, PE (X.suite a ((a, oe) :: pn)) e te ∧ ∀ (σ : St) (H : Hp) (Q : VK), σ[i]? = some (some (.ref a)) → Q (.bl b) H → te σ H Q
section
variable {X : Cx} {a : Addr} {oe : Obj} {pn : List (Addr × Obj)} {i : Nat} {b b' : Bool} {e e' : Expr} {pos : Pos}
theorem is_name_ {D : Addr} {n xC : Str} {c : V} {cv : Value} {p0 p1 p2 p3 : Pos} (C : ExcC X.K D) (hz : Zc (.ref D) none oe) (hf : ∃ vs, oe.data = .fields vs) (hm : X.mg "isinstance" = none) (pc : PE (X.suite a ((a, oe) :: pn)) (.Name xC p2) (tC c)) (hcv : ∀ u, RelV c u → u = cv) (hk : PySem.W.kitOne X.K (.ref D) cv = some b)
    (hN : X.N[i]? = some n := by rfl) (hv : Vis X.env.scope n := by first | exact Or.inl rfl | exact Or.inr (Or.inl rfl) | exact Or.inr (Or.inr rfl)) (hd : (n == ("__debug__" : Str)) = false := by decide) (hcd : (n == ("__classdict__" : Str)) = false := by decide) (hg : Gl X "isinstance" := by rfl)
    (hs1 : starEach [.Name n p0, .Name xC p2] X.env = (false, eval (.Name n p0) X.env) :: starEach [.Name xC p2] X.env := by rfl) (hs2 : starEach [.Name xC p2] X.env = (false, eval (.Name xC p2) X.env) :: starEach [] X.env := by rfl) (hpl : (backTo p3 (starEach [.Name xC p2] X.env)).any (·.1) = false := by rfl) :
    IsE X a oe pn i (.Call (.Name "isinstance" p1) [.Name n p0, .Name xC p2] [] p3) b := by
  refine ⟨_, pe_callB (call_isE C hz hf) hg hm bt_isinstance (pa_cons (pe_var (i := i) hN hv hd hcd) (pa_cons pc pa_nil hs2) hs1) (by decide) (by decide) hs1 hpl, ?_⟩
  intro σ H Q hσ q
  exact ⟨.ref a, hσ, c, cv, b, rfl, hcv, hk, q⟩
theorem is_own {D C0 : Addr} {n xC : Str} {p0 p1 p2 p3 : Pos} (C : ExcC X.K D) (hz : Zc (.ref D) none oe) (hf : ∃ vs, oe.data = .fields vs) (hm : X.mg "isinstance" = none) (hC : X.mg xC = some (.ref C0)) (hk : PySem.W.kitOne X.K (.ref D) (.ref C0) = some b)
    (hN : X.N[i]? = some n := by rfl) (hv : Vis X.env.scope n := by first | exact Or.inl rfl | exact Or.inr (Or.inl rfl) | exact Or.inr (Or.inr rfl)) (hd : (n == ("__debug__" : Str)) = false := by decide) (hcd : (n == ("__classdict__" : Str)) = false := by decide) (hg : Gl X "isinstance" := by rfl) (hgC : Gl X xC := by rfl) (hdC : (xC == ("__debug__" : Str)) = false := by decide)
    (hs1 : starEach [.Name n p0, .Name xC p2] X.env = (false, eval (.Name n p0) X.env) :: starEach [.Name xC p2] X.env := by rfl) (hs2 : starEach [.Name xC p2] X.env = (false, eval (.Name xC p2) X.env) :: starEach [] X.env := by rfl) (hpl : (backTo p3 (starEach [.Name xC p2] X.env)).any (·.1) = false := by rfl) :
    IsE X a oe pn i (.Call (.Name "isinstance" p1) [.Name n p0, .Name xC p2] [] p3) b :=
  is_name_ (c := .ref C0) C hz hf hm (pe_glob hgC hC rfl hdC) (fun u r => r) hk hN hv hd hcd hg hs1 hs2 hpl
theorem is_ty {D : Addr} {T : String} {n xC : Str} {p0 p1 p2 p3 : Pos} (C : ExcC X.K D) (hz : Zc (.ref D) none oe) (hf : ∃ vs, oe.data = .fields vs) (hm : X.mg "isinstance" = none) (hC : X.mg xC = none) (hT : bootBuiltins xC = some (.type T)) (hk : PySem.W.kitOne X.K (.ref D) (.type T) = some b)
    (hN : X.N[i]? = some n := by rfl) (hv : Vis X.env.scope n := by first | exact Or.inl rfl | exact Or.inr (Or.inl rfl) | exact Or.inr (Or.inr rfl)) (hd : (n == ("__debug__" : Str)) = false := by decide) (hcd : (n == ("__classdict__" : Str)) = false := by decide) (hg : Gl X "isinstance" := by rfl) (hgC : Gl X xC := by rfl) (hnC : xC ≠ "__name__" := by decide) (hdC : (xC == ("__debug__" : Str)) = false := by decide)
    (hs1 : starEach [.Name n p0, .Name xC p2] X.env = (false, eval (.Name n p0) X.env) :: starEach [.Name xC p2] X.env := by rfl) (hs2 : starEach [.Name xC p2] X.env = (false, eval (.Name xC p2) X.env) :: starEach [] X.env := by rfl) (hpl : (backTo p3 (starEach [.Name xC p2] X.env)).any (·.1) = false := by rfl) :
    IsE X a oe pn i (.Call (.Name "isinstance" p1) [.Name n p0, .Name xC p2] [] p3) b :=
  is_name_ (c := .ty T) C hz hf hm (pe_bltn hgC hC hT rfl hnC hdC) (fun u r => r) hk hN hv hd hcd hg hs1 hs2 hpl
theorem is_one {op : BoolOp} (h : IsE X a oe pn i e b) : IsE X a oe pn i (.BoolOp op [e] pos) b := by
  obtain ⟨te, p, s⟩ := h
  exact ⟨te, pe_one p, s⟩
theorem is_and {rest : List Expr} (h : IsE X a oe pn i e true) (h' : IsE X a oe pn i (.BoolOp .And (e' :: rest) pos) b) : IsE X a oe pn i (.BoolOp .And (e :: e' :: rest) pos) b := by
  obtain ⟨te, p, s⟩ := h
  obtain ⟨te', p', s'⟩ := h'
  exact ⟨_, pe_and p p', fun σ H Q hσ q => s σ H _ hσ ⟨true, rfl, (if_pos rfl).mpr (s' σ H Q hσ q)⟩⟩
theorem is_not (h : IsE X a oe pn i e b) : IsE X a oe pn i (.UnaryOp .Not e pos) (!b) := by
  obtain ⟨te, p, s⟩ := h
  exact ⟨_, pe_not p, fun σ H Q hσ q => s σ H _ hσ ⟨b, rfl, q⟩⟩
end
theorem kit_ref {K : PySem.W.Frag} {D C : Addr} {b : Bool} (hs : PySem.W.subIn K (.ref D) (.ref C) = some b) (ne : (Value.ref D == Value.ref C) = false) (hd : PySem.W.hasDictIn K C = true) (ht : PySem.W.typeIn K (.ref C) = some (.type "type")) : PySem.W.kitOne K (.ref D) (.ref C) = some b := by
  have hc : (PySem.W.clsIn K C).isSome = true := by
    unfold PySem.W.hasDictIn at hd
    cases e : PySem.W.clsIn K C with
    | some _ => rfl
    | none => rw [e] at hd; cases hd
  unfold PySem.W.kitOne
  rw [ne, if_neg Bool.false_ne_true]
  unfold PySem.W.kitCls
  show (if ((PySem.W.clsIn K C).isSome && PySem.W.typeIn K (.ref C) == some (.type "type")) = true then PySem.W.subIn K (.ref D) (.ref C) else none) = some b
  rw [hc, ht]
  exact hs
theorem kit_typ {K : PySem.W.Frag} {D : Addr} {T : String} {b : Bool} (hs : PySem.W.subIn K (.ref D) (.type T) = some b) (hm : PySem.W.kitMeta T = true) : PySem.W.kitOne K (.ref D) (.type T) = some b := by
  unfold PySem.W.kitOne
  rw [show (Value.ref D == Value.type T) = false from rfl, if_neg Bool.false_ne_true]
  unfold PySem.W.kitCls
  show (if PySem.W.kitMeta T = true then PySem.W.subIn K (.ref D) (.type T) else none) = some b
  rw [if_pos hm]
  exact hs
theorem tab_of_code {K : PySem.W.Frag} {x : Str} {f cc PT : Addr} {oc : Value} {od an : Option Addr} {osl : Array (Option Value)} {n q : Str} {pa : Arguments} {bd : List Stmt} {sc : Scope} {dV kV doc pm ct : Value} {oc' : Value} {od' : Option Addr} {vs : Array Value} {sl' : Array (Option Value)} (h1 : PySem.W.nsIn K mainGlobals x = some (some (.ref f)))
    (l : K.lookup f = some ⟨oc, od, .func (PySem.W.fnOf n q pa bd sc dV kV doc pm an (.ref cc) ct), osl⟩) (t : K.lookup cc = some ⟨oc', od', .fields vs, sl'⟩) (u : (vs[11]? : Option Value) = some (.ref PT)) : PySem.W.tabIn K x = some (cc, PT) := by
  unfold PySem.W.tabIn
  rw [h1]
  dsimp only
  rw [l]
  dsimp only [PySem.W.fnOf]
  rw [t]
  dsimp only
  rw [u]
end DL

/-! reckoning with mirrors -/
namespace DL
open PySem PySem.Spec L2
theorem isi_ss : kitB "str" "str" = some true := by decide +kernel
theorem isi_tt : kitB "tuple" "tuple" = some true := by decide +kernel
theorem isi_ns : kitB "NoneType" "str" = some false := by decide +kernel
theorem isi_bs : kitB "bool" "str" = some false := by decide +kernel
theorem isi_is : kitB "int" "str" = some false := by decide +kernel
theorem isi_ls : kitB "list" "str" = some false := by decide +kernel
theorem isi_ts : kitB "tuple" "str" = some false := by decide +kernel
theorem isi_ds : kitB "dict" "str" = some false := by decide +kernel
theorem isi_nt : kitB "NoneType" "tuple" = some false := by decide +kernel
theorem isi_bt : kitB "bool" "tuple" = some false := by decide +kernel
theorem isi_it : kitB "int" "tuple" = some false := by decide +kernel
theorem isi_st : kitB "str" "tuple" = some false := by decide +kernel
theorem isi_lt : kitB "list" "tuple" = some false := by decide +kernel
theorem isi_dt : kitB "dict" "tuple" = some false := by decide +kernel
theorem isi_ll : kitB "list" "list" = some true := by decide +kernel
def isS : D → Bool
  | .str _ => true
  | _ => false
def isT : D → Bool
  | .tuple _ => true
  | _ => false
theorem isi_str (d : D) : isiD "str" d = some (.bool (isS d)) := by
  cases d <;> simp only [isiD, tyN, isS, isi_ns, isi_bs, isi_is, isi_ss, isi_ls, isi_ts, isi_ds, Option.map]
theorem isi_tup (d : D) : isiD "tuple" d = some (.bool (isT d)) := by
  cases d <;> simp only [isiD, tyN, isT, isi_nt, isi_bt, isi_it, isi_st, isi_lt, isi_tt, isi_dt, Option.map]
theorem isi_list (xs : List D) : isiD "list" (.list xs) = some (.bool true) := by simp only [isiD, tyN, isi_ll, Option.map]
theorem isT_t (xs : List D) : isT (.tuple xs) = true := rfl
theorem isT_s (x : Str) : isT (.str x) = false := rfl
theorem isT_l (xs : List D) : isT (.list xs) = false := rfl
theorem isT_i (i : Int) : isT (.int i) = false := rfl
theorem isT_n : isT .none = false := rfl
theorem isS_s (x : Str) : isS (.str x) = true := rfl
theorem isS_t (xs : List D) : isS (.tuple xs) = false := rfl
theorem isS_l (xs : List D) : isS (.list xs) = false := rfl
theorem isS_i (i : Int) : isS (.int i) = false := rfl
theorem isS_n : isS .none = false := rfl
/-! ### operations at constructors -/
theorem addD_i (i j : Int) : addD (.int i) (.int j) = some (.int (i + j)) := rfl
theorem addI_i (i j : Int) : addI (.int i) (.int j) = some (.int (i + j)) := rfl
theorem subD_i (i j : Int) : subD (.int i) (.int j) = some (.int (i - j)) := rfl
theorem addD_l {xs ys : List D} (h : xs.length + ys.length ≤ sizeLine) : addD (.list xs) (.list ys) = some (.list (xs ++ ys)) := if_pos h
theorem addD_t {xs ys : List D} (h : xs.length + ys.length ≤ sizeLine) : addD (.tuple xs) (.tuple ys) = some (.tuple (xs ++ ys)) := if_pos h
theorem leD_i (i j : Int) : leD (.int i) (.int j) = some (.bool (decide (i ≤ j))) := by rw [← leI_eq]; rfl
theorem leD_s (i j : Str) : leD (.str i) (.str j) = some (.bool (!ltS j i)) := rfl
theorem ltD_i (i j : Int) : ltD (.int i) (.int j) = some (.bool (decide (i < j))) := by rw [← ltI_eq]; rfl
theorem ltD_s (i j : Str) : ltD (.str i) (.str j) = some (.bool (ltS i j)) := rfl
theorem gtD_i (i j : Int) : gtD (.int i) (.int j) = some (.bool (decide (j < i))) := by rw [← ltI_eq]; rfl
theorem geD_i (i j : Int) : geD (.int i) (.int j) = some (.bool (decide (j ≤ i))) := by rw [← leI_eq]; rfl
theorem eqD_i (i j : Int) : eqD (.int i) (.int j) = some (.bool (i == j)) := by simp only [eqD, scalD, true_or, if_true, PyData.eqv]
theorem neD_i (i j : Int) : neD (.int i) (.int j) = some (.bool (!(i == j))) := by simp only [neD, scalD, true_or, if_true, PyData.eqv]
theorem eqD_b (i j : Bool) : eqD (.bool i) (.bool j) = some (.bool (i == j)) := by simp only [eqD, scalD, true_or, if_true, PyData.eqv]
theorem neD_b (i j : Bool) : neD (.bool i) (.bool j) = some (.bool (!(i == j))) := by simp only [neD, scalD, true_or, if_true, PyData.eqv]
theorem eqD_s (i j : Str) : eqD (.str i) (.str j) = some (.bool (i == j)) := by simp only [eqD, scalD, true_or, if_true, PyData.eqv]
theorem lenD_l (xs : List D) : lenD [.list xs] = some (.int xs.length) := rfl
theorem lenD_t (xs : List D) : lenD [.tuple xs] = some (.int xs.length) := rfl
theorem lenD_s {x : Str} (h : x.length ≤ sizeLine) : lenD [.str x] = some (.int x.length) := if_pos h
theorem mulD_k {i j : Int} (h : -(2 ^ 64) < j ∧ j < 2 ^ 64) : mulD (.int i) (.int j) = some (.int (i * j)) := if_pos (Bool.or_eq_true_iff.mpr (.inr (btw_iff.mpr h)))
theorem mul_str {z : Str} {k : Int} (h : 2 ≤ k ∧ k ≤ 1000 ∧ 0 < z.length ∧ z.length ≤ 1000) : mulD (.str z) (.int k) = some (.str (repS k.toNat z)) := if_pos h
theorem fdivD_k {i j : Int} (h : 0 < j ∧ j < 1073741824) : fdivD (.int i) (.int j) = some (.int (i / j)) := if_pos (btw_iff.mpr h)
theorem modD_k {i j : Int} (h : 0 < j) : modD (.int i) (.int j) = some (.int (i % j)) := if_pos h
theorem absD_i (i : Int) : absD [.int i] = some (.int (if i < 0 then -i else i)) := rfl
theorem intD_i (i : Int) : intD [.int i] = some (.int i) := rfl
theorem tupD_l (xs : List D) : tupD [.list xs] = some (.tuple xs) := rfl
theorem tupD_t (xs : List D) : tupD [.tuple xs] = some (.tuple xs) := rfl
theorem lstD_l (xs : List D) : lstD [.list xs] = some (.list xs) := rfl
theorem lstD_t (xs : List D) : lstD [.tuple xs] = some (.list xs) := rfl
theorem mkT_s {xs : List D} (h : xs.length ≤ sizeLine) : mkT xs = some (.tuple xs) := if_pos h
theorem mkL_s {xs : List D} (h : xs.length ≤ sizeLine) : mkL xs = some (.list xs) := if_pos h
theorem small_line {n : Nat} (h : n ≤ 100000) : n ≤ sizeLine := Nat.le_trans h (by decide)
theorem mkT_0 : mkT [] = some (.tuple []) := rfl
theorem mkT_1 (a : D) : mkT [a] = some (.tuple [a]) := mkT_s (small_line (by simp))
theorem mkT_2 (a b : D) : mkT [a, b] = some (.tuple [a, b]) := mkT_s (small_line (by simp))
theorem mkT_3 (a b c : D) : mkT [a, b, c] = some (.tuple [a, b, c]) := mkT_s (small_line (by simp))
theorem mkL_0 : mkL [] = some (.list []) := rfl
theorem mkL_1 (a : D) : mkL [a] = some (.list [a]) := mkL_s (small_line (by simp))
theorem sized_0 : sized [] = some [] := rfl
theorem sized_1 (a : D) : sized [a] = some [a] := if_pos (small_line (by simp))
theorem atI_nat' {α : Type} {xs : List α} {k : Nat} {a : α} (h : xs[k]? = some a) : atI xs (k : Int) = some a := atI_nat h
theorem ixD_t {xs : List D} {k : Nat} {d : D} (h : xs[k]? = some d) : ixD (.tuple xs) (.int (k : Int)) = some d := atI_nat h
theorem ixD_l {xs : List D} {k : Nat} {d : D} (h : xs[k]? = some d) : ixD (.list xs) (.int (k : Int)) = some d := atI_nat h
theorem ix_0 (a : D) (r : List D) : ixD (.tuple (a :: r)) (.int 0) = some a := ixD_t (k := 0) rfl
theorem ix_1 (a b : D) (r : List D) : ixD (.tuple (a :: b :: r)) (.int 1) = some b := ixD_t (k := 1) rfl
theorem ix_2 (a b e : D) (r : List D) : ixD (.tuple (a :: b :: e :: r)) (.int 2) = some e := ixD_t (k := 2) rfl
theorem rng1_i {j : Int} (h : -(2 ^ 62) ≤ j ∧ j < 2 ^ 62) : rng1 [.int j] = some (upto 0 j.toNat) := if_pos (btw_iff.mpr (by omega))
theorem rng2_i {i j : Int} (h : -(2 ^ 62) ≤ i ∧ i < 2 ^ 62 ∧ -(2 ^ 62) ≤ j ∧ j < 2 ^ 62) : rng2 [.int i, .int j] = some (upto i (j - i).toNat) := if_pos (Bool.and_eq_true_iff.mpr ⟨btw_iff.mpr (by omega), btw_iff.mpr (by omega)⟩)
theorem cast_0 : ((0 : Nat) : Int) = 0 := rfl
theorem cast_1 : ((1 : Nat) : Int) = 1 := rfl
theorem cast_2 : ((2 : Nat) : Int) = 2 := rfl
theorem cast_3 : ((3 : Nat) : Int) = 3 := rfl
theorem cast_4 : ((4 : Nat) : Int) = 4 := rfl
theorem cast_5 : ((5 : Nat) : Int) = 5 := rfl
theorem cast_6 : ((6 : Nat) : Int) = 6 := rfl
theorem cast_7 : ((7 : Nat) : Int) = 7 := rfl
theorem cast_8 : ((8 : Nat) : Int) = 8 := rfl
theorem cast_9 : ((9 : Nat) : Int) = 9 := rfl
theorem cast_10 : ((10 : Nat) : Int) = 10 := rfl
theorem cast_11 : ((11 : Nat) : Int) = 11 := rfl
theorem cast_12 : ((12 : Nat) : Int) = 12 := rfl
/-! ### words with a match in them -/
def chK : Option D → Sts → Rs D → Rs D
  | some (.bool true), _, x => x
  | some (.bool false), s, _ => .ok (.bool false) s
  | _, _, _ => .bad
theorem chK_b (b : Bool) (s : Sts) (x : Rs D) : chK (some (.bool b)) s x = if b = true then x else .ok (.bool false) s := by cases b <;> rfl
theorem chain_eq (f g h : M D) (op op' : D → D → Option D) : mChain f g h op op' = fun s => (f s).bind fun a s1 => (g s1).bind fun b s2 => chK (op a b) s2 ((h s2).bind fun d s3 => lift (op' b d) s3) := by
  funext s
  unfold mChain
  cases f s with
  | ok a s1 =>
    simp only [bind_ok]
    cases g s1 with
    | ok b s2 =>
      simp only [bind_ok]
      rcases op a b with _ | v
      · rfl
      · cases v with
        | bool b => cases b <;> rfl
        | _ => rfl
    | err _ _ => rfl
    | bad => rfl
  | err _ _ => rfl
  | bad => rfl
theorem andV_eq (f g : M D) : mAndV f g = fun s => (f s).bind fun d s1 => match d with | .bool b => (if b = true then g s1 else .ok (.bool false) s1) | _ => .bad := by
  funext s
  unfold mAndV
  cases f s with
  | ok d s1 => cases d with
    | bool b => cases b <;> rfl
    | _ => rfl
  | err _ _ => rfl
  | bad => rfl
theorem orV_eq (f g : M D) : mOrV f g = fun s => (f s).bind fun d s1 => match d with | .bool b => (if b = true then .ok (.bool true) s1 else g s1) | _ => .bad := by
  funext s
  unfold mOrV
  cases f s with
  | ok d s1 => cases d with
    | bool b => cases b <;> rfl
    | _ => rfl
  | err _ _ => rfl
  | bad => rfl
theorem call_ok {np : Nat} {F : FnM} {fa : M (List D)} {s s1 : Sts} {ds : List D} {d : D} {ss : Sts} (ha : fa s = .ok ds s1) (hl : ds.length = np) (h : F (ds.map .dat) = .ok d ss) : mCall np F fa s = .ok d s1 := by
  unfold mCall
  rw [ha]
  simp only [bind_ok]
  rw [if_pos hl, h]
theorem call_err {np : Nat} {F : FnM} {fa : M (List D)} {s s1 : Sts} {ds : List D} {x : Str} {ss : Sts} (ha : fa s = .ok ds s1) (hl : ds.length = np) (h : F (ds.map .dat) = .err x ss) : mCall np F fa s = .err x s1 := by
  unfold mCall
  rw [ha]
  simp only [bind_ok]
  rw [if_pos hl, h]
theorem run_ret {n : Nat} {g : G} {ss st s : Sts} {d : D} {o : Sts} (hg : g st = .ret d s) (hs : ss ++ List.replicate (n - ss.length) .un = st := by rfl) (ho : outs ss s = o := by rfl) : run n g ss = .ok d o := by
  subst hs
  subst ho
  unfold run
  rw [hg]
theorem run_nx {n : Nat} {g : G} {ss st s : Sts} {o : Sts} (hg : g st = .nx s) (hs : ss ++ List.replicate (n - ss.length) .un = st := by rfl) (ho : outs ss s = o := by rfl) : run n g ss = .ok .none o := by
  subst hs
  subst ho
  unfold run
  rw [hg]
theorem run_err {n : Nat} {g : G} {ss st s : Sts} {x : Str} {o : Sts} (hg : g st = .err x s) (hs : ss ++ List.replicate (n - ss.length) .un = st := by rfl) (ho : outs ss s = o := by rfl) : run n g ss = .err x o := by
  subst hs
  subst ho
  unfold run
  rw [hg]
/-! ### loops -/
theorem for_nil (t : Tg) (b : G) (s : Sts) : forG t b [] s = .nx s := rfl
theorem for_nx {t : Tg} {b : G} {d : D} {r : List D} {s s1 s2 : Sts} (h : t d s = some s1) (hb : b s1 = .nx s2) : forG t b (d :: r) s = forG t b r s2 := by
  rw [forG.eq_2, h]
  simp only
  rw [hb]
theorem for_ret {t : Tg} {b : G} {d v : D} {r : List D} {s s1 s2 : Sts} (h : t d s = some s1) (hb : b s1 = .ret v s2) : forG t b (d :: r) s = .ret v s2 := by
  rw [forG.eq_2, h]
  simp only
  rw [hb]
theorem for_err {t : Tg} {b : G} {d : D} {x : Str} {r : List D} {s s1 s2 : Sts} (h : t d s = some s1) (hb : b s1 = .err x s2) : forG t b (d :: r) s = .err x s2 := by
  rw [forG.eq_2, h]
  simp only
  rw [hb]
theorem lc_eq {vs : List Nat} {t : Tg} {test : M Bool} {elt : M D} {s : Sts} {p : D → Option D} : ∀ {ds : List D}, (∀ d ∈ ds, ∃ s1, t d s = some s1 ∧ ((∃ x, p d = some x ∧ test s1 = .ok true s1 ∧ elt s1 = .ok x s1) ∨ (p d = none ∧ test s1 = .ok false s1)) ∧ wipeS s1 vs = s) → lcG vs t test elt ds s = .ok (ds.filterMap p) s
  | [], _ => rfl
  | d :: r, h => by
    obtain ⟨s1, e1, e2, e3⟩ := h d List.mem_cons_self
    have ih := lc_eq (ds := r) fun d hd => h d (List.mem_cons_of_mem _ hd)
    unfold lcG
    rw [e1]
    rcases e2 with ⟨x, a, b, c⟩ | ⟨a, b⟩
    · simp only
      rw [b]
      simp only [bind_ok, if_true]
      rw [c]
      simp only [bind_ok]
      rw [e3, ih, List.filterMap_cons_some a]
      rfl
    · simp only
      rw [b]
      simp only [bind_ok, Bool.false_eq_true, if_false]
      rw [e3, ih, List.filterMap_cons_none a]
theorem lc_map {vs : List Nat} {t : Tg} {elt : M D} {s : Sts} {p : D → D} {ds : List D} (h : ∀ d ∈ ds, ∃ s1, t d s = some s1 ∧ elt s1 = .ok (p d) s1 ∧ wipeS s1 vs = s) : lcG vs t mYes elt ds s = .ok (ds.map p) s := by
  rw [lc_eq (p := fun d => some (p d)) fun d hd => ?_]
  · rw [List.filterMap_eq_map']
  · obtain ⟨s1, a, b, c⟩ := h d hd
    exact ⟨s1, a, .inl ⟨_, rfl, rfl, b⟩, c⟩
theorem any_eq {vs : List Nat} {t : Tg} {elt : M D} {s : Sts} {p : D → Bool} : ∀ {ds : List D}, (∀ d ∈ ds, ∃ s1, t d s = some s1 ∧ elt s1 = .ok (.bool (p d)) s1 ∧ wipeS s1 vs = s) → anyG true vs t elt ds s = .ok (ds.any p) s
  | [], _ => rfl
  | d :: r, h => by
    obtain ⟨s1, e1, e2, e3⟩ := h d List.mem_cons_self
    have ih := any_eq (ds := r) fun d hd => h d (List.mem_cons_of_mem _ hd)
    unfold anyG
    rw [e1]
    simp only
    rw [e2]
    simp only [bind_ok]
    rw [e3, ih, List.any_cons]
    cases p d <;> simp
theorem all_eq {vs : List Nat} {t : Tg} {elt : M D} {s : Sts} {p : D → Bool} : ∀ {ds : List D}, (∀ d ∈ ds, ∃ s1, t d s = some s1 ∧ elt s1 = .ok (.bool (p d)) s1 ∧ wipeS s1 vs = s) → anyG false vs t elt ds s = .ok (ds.all p) s
  | [], _ => rfl
  | d :: r, h => by
    obtain ⟨s1, e1, e2, e3⟩ := h d List.mem_cons_self
    have ih := all_eq (ds := r) fun d hd => h d (List.mem_cons_of_mem _ hd)
    unfold anyG
    rw [e1]
    simp only
    rw [e2]
    simp only [bind_ok]
    rw [e3, ih, List.all_cons]
    cases p d <;> simp
end DL

/-! more operations: the order of alike tuples, minus, constants of the module that are tuples -/
namespace DL
open PySem PySem.Spec L2
section
variable {c : Cf} {X : Cx} {W : WX} {a b : Expr} {f : M D} {fs : M (List D)} {pos : Pos}
def tupLt (d e : D) : Option D := match d, e with
  | .tuple xs, .tuple ys => if (PySem.W.alikeAll xs ys && (decide ((PyData.tuple xs).depth ≤ 64) && (nodA xs && nodA ys))) = true then some (.bool (PySem.W.dataLt (.tuple xs) (.tuple ys))) else none
  | _, _ => none
def ltE (d e : D) : Option D := match ltD d e with
  | some r => some r
  | none => tupLt d e
def rLtD (K : PySem.W.Frag) : R2 := fun x y H Q => ∃ d e, L2.Dp K H x d ∧ L2.Dp K H y e ∧ PySem.W.alike d e = true ∧ d ≠ .none ∧ d.depth ≤ 64 ∧ Q (.bl (PySem.W.dataLt d e)) H
def rLtE (K : PySem.W.Frag) : R2 := fun x y H Q => rOrd (fun i j => decide (i < j)) ltS x y H Q ∨ rLtD K x y H Q
theorem op_ltD (hu : X.A.units + 64 < cLine) : OpR X (compareOp .Lt) (rLtD X.K) := by
  intro pins s σ H x y v u Q I rx ry h
  obtain ⟨d, e, hd, he, al, nn, dp, q⟩ := h
  obtain ⟨as, r1⟩ := L2.Dp.reads I d x v hd rx
  obtain ⟨bs, r2⟩ := L2.Dp.reads I e y u he ry
  have := PySem.W.rcLt_alike d e X.A s v u as bs r1 r2 al nn (by have := Nat.min_le_left d.depth e.depth; omega)
  exact this X.prog X.w _ _ ⟨.bl _, H, I, rfl, q⟩
theorem op_ltE {k : Nat} (hr : Room k X.A) : OpR X (compareOp .Lt) (rLtE X.K) := OpR.or op_ltA (op_ltD hr.units)
theorem o_ltE (hK : c.K = X.K) : Oq2 c (rLtE X.K) ltE := by
  intro O H x y v w d al e q1 q2 Q k
  unfold ltE at e
  cases z : ltD v w with
  | some r =>
    rw [z] at e
    have e := Option.some.inj e
    subst e
    exact .inl (o_lt O H x y v w _ al z q1 q2 Q k)
  | none =>
    rw [z] at e
    have e : tupLt v w = some d := e
    cases v with
    | tuple xs =>
      cases w with
      | tuple ys =>
        have e : (if (PySem.W.alikeAll xs ys && (decide ((PyData.tuple xs).depth ≤ 64) && (nodA xs && nodA ys))) = true then some (PyData.bool (PySem.W.dataLt (.tuple xs) (.tuple ys))) else none) = some d := e
        split at e
        · rename_i hh
          have e := Option.some.inj e
          subst e
          obtain ⟨h1, h2⟩ := Bool.and_eq_true_iff.mp hh
          obtain ⟨h2, h3⟩ := Bool.and_eq_true_iff.mp h2
          obtain ⟨h3, h4⟩ := Bool.and_eq_true_iff.mp h3
          exact .inr ⟨_, _, hK ▸ (dq_dp q1).old (by rw [nod]; exact h3), hK ▸ (dq_dp q2).old (by rw [nod]; exact h4), (by rw [PySem.W.alike]; exact h1), (fun z => by cases z), of_decide_eq_true h2, k _ H (Grow.refl _ _) (.bl _)⟩
        · cases e
      | _ => cases e
    | _ => cases e
def negD : D → Option D
  | .int i => some (.int (-i))
  | _ => none
theorem d_neg (he : DE c X W a f) : DE c X W (.UnaryOp .USub a pos) (mMap f negD) := by
  obtain ⟨te, pe, se⟩ := he
  refine ⟨_, pe_un un_neg pe, sem_un (fun O H x v d al e q Q k => ?_) se⟩
  cases v with
  | int i =>
    have e := Option.some.inj (show some (PyData.int (-i)) = some d from e)
    subst e
    exact ⟨i, dp_int q, k _ H (Grow.refl _ _) (.int _)⟩
  | _ => cases e
/-- scalars -/
def scalOf : Value → Option (V × D)
  | .none => some (.non, .none)
  | .bool b => some (.bl b, .bool b)
  | .int i _ => some (.int i, .int i)
  | .str x _ => some (.str x, .str x)
  | _ => none
def scalsOf : List Value → Option (List V × List D)
  | [] => some ([], [])
  | v :: r => match scalOf v, scalsOf r with
    | some p, some q => some (p.1 :: q.1, p.2 :: q.2)
    | _, _ => none
theorem scal_ok {K : PySem.W.Frag} {H : Hp} {v : Value} {p : V × D} (h : scalOf v = some p) : RelV p.1 v ∧ Dp K H p.1 p.2 := by
  unfold scalOf at h
  split at h
  · cases h; exact ⟨rfl, .non⟩
  · cases h; exact ⟨rfl, .bl _⟩
  · cases h; exact ⟨⟨_, rfl⟩, .int _⟩
  · cases h; exact ⟨⟨_, rfl⟩, .str _⟩
  · cases h
theorem scals_ok {K : PySem.W.Frag} {H : Hp} : ∀ {vs : List Value} {p : List V × List D}, scalsOf vs = some p → Vals p.1 vs ∧ DpAll K H p.1 p.2
  | [], p, h => by cases h; exact ⟨.nil, .nil⟩
  | v :: r, p, h => by
    unfold scalsOf at h
    cases e1 : scalOf v with
    | none => rw [e1] at h; cases h
    | some q1 =>
      cases e2 : scalsOf r with
      | none => rw [e1, e2] at h; cases h
      | some q2 =>
        rw [e1, e2] at h
        cases h
        obtain ⟨a1, a2⟩ := scal_ok (K := K) (H := H) e1
        obtain ⟨b1, b2⟩ := scals_ok (K := K) (H := H) e2
        exact ⟨.cons a1 b1, .cons a2 b2⟩
/-- a tuple of scalars that the module holds -/
def GlobT (K : PySem.W.Frag) (mg : Str → Option Value) (x : Str) (d : D) : Prop := ∃ a : Addr, mg x = some (.ref a) ∧ ∀ H, Dp K H (.ref a) d
theorem globT_mk {K : PySem.W.Frag} {mg : Str → Option Value} {x : Str} {a : Addr} {od : Option Addr} {its : Array Value} {n : Nat} {sl : Array (Option Value)} {p : List V × List D} (hm : mg x = some (.ref a)) (hl : K.lookup a = some ⟨.type "tuple", od, .seq its n, sl⟩) (hs : its.size ≤ 100000) (h : scalsOf its.toList = some p) : GlobT K mg x (.tuple p.2) := by
  refine ⟨a, hm, fun H => ?_⟩
  obtain ⟨h1, h2⟩ := scals_ok (K := K) (H := H) h
  exact .tup (.inr ⟨_, its, n, hl, rfl, rfl, small_line hs, h1⟩) h2
theorem d_globT {x : Str} {d : D} (h : GlobT X.K X.mg x d) (hK : c.K = X.K := by rfl) (hg : Gl X x := by rfl) (hd : (x == ("__debug__" : Str)) = false := by decide) : DE c X W (.Name x pos) (mC d) := by
  obtain ⟨a, hm, q⟩ := h
  exact d_glob (v := .ref a) hm rfl (fun H => hK ▸ q H) hg hd
end
end DL

/-! in over tuples and lists of any data; startswith -/
namespace DL
open PySem PySem.Spec L2
section
variable {c : Cf} {X : Cx} {W : WX} {a b : Expr} {f g : M D} {fs : M (List D)} {pos : Pos}
def inDeep (d e : D) : Option D := match items e with
  | some ds => if (SeqAt.shaped d && SeqAt.shaped e) = true then some (.bool (ds.any fun z => PyData.eqv z d)) else none
  | none => none
def inX (d e : D) : Option D := match inD d e with
  | some r => some r
  | none => inDeep d e
def rInT (K : PySem.W.Frag) : R2 := fun x y H Q => ∃ d ds, L2.Dp K H x d ∧ (L2.Dp K H y (.list ds) ∧ SeqAt.shaped (.list ds) = true ∨ L2.Dp K H y (.tuple ds) ∧ SeqAt.shaped (.tuple ds) = true) ∧ SeqAt.shaped d = true ∧ Q (.bl (ds.any fun z => PyData.eqv z d)) H
theorem op_inT (hu : X.A.units + 65 < cLine) : OpR X (compareOp .In) (rInT X.K) := by
  intro pins s σ H x y v u Q I rx ry h
  obtain ⟨d, ds, hd, he, sd, q⟩ := h
  obtain ⟨as, r1⟩ := L2.Dp.reads I d x v hd rx
  rcases he with ⟨he, se⟩ | ⟨he, se⟩
  · obtain ⟨bs, r2⟩ := L2.Dp.reads I (.list ds) y u he ry
    exact SeqAt.in_list_reads r2 r1 (SeqAt.canLay_of_shaped se) (SeqAt.canLay_of_shaped sd) (PyProof.Rows.room_in_shaped sd hu) ⟨.bl _, H, I, rfl, q⟩
  · obtain ⟨bs, r2⟩ := L2.Dp.reads I (.tuple ds) y u he ry
    exact SeqAt.in_tuple_reads r2 r1 (SeqAt.canLay_of_shaped se) (SeqAt.canLay_of_shaped sd) (PyProof.Rows.room_in_shaped sd hu) ⟨.bl _, H, I, rfl, q⟩
theorem op_inX {k : Nat} (hr : Room k X.A) : OpR X (compareOp .In) (fun x y H Q => rIn X.K false x y H Q ∨ rInT X.K x y H Q) := OpR.or op_in_seq (op_inT (by have := hr.un; omega))
theorem o_inX (hK : c.K = X.K) : Oq2 c (fun x y H Q => rIn X.K false x y H Q ∨ rInT X.K x y H Q) inX := by
  intro O H x y v w d al e q1 q2 Q k
  unfold inX at e
  cases z : inD v w with
  | some r =>
    rw [z] at e
    have e := Option.some.inj e
    subst e
    exact .inl (o_in hK O H x y v w _ al z q1 q2 Q k)
  | none =>
    rw [z] at e
    have e : inDeep v w = some d := e
    cases w with
    | list ds =>
      have e : (if (SeqAt.shaped v && SeqAt.shaped (.list ds)) = true then some (PyData.bool (ds.any fun z => PyData.eqv z v)) else none) = some d := e
      split at e
      · rename_i hh
        have e := Option.some.inj e
        subst e
        obtain ⟨h1, h2⟩ := Bool.and_eq_true_iff.mp hh
        exact .inr ⟨_, ds, hK ▸ (dq_dp q1).old (nod_shaped h1), .inl ⟨hK ▸ (dq_dp q2).old (nod_shaped h2), h2⟩, h1, k _ H (Grow.refl _ _) (.bl _)⟩
      · cases e
    | tuple ds =>
      have e : (if (SeqAt.shaped v && SeqAt.shaped (.tuple ds)) = true then some (PyData.bool (ds.any fun z => PyData.eqv z v)) else none) = some d := e
      split at e
      · rename_i hh
        have e := Option.some.inj e
        subst e
        obtain ⟨h1, h2⟩ := Bool.and_eq_true_iff.mp hh
        exact .inr ⟨_, ds, hK ▸ (dq_dp q1).old (nod_shaped h1), .inr ⟨hK ▸ (dq_dp q2).old (nod_shaped h2), h2⟩, h1, k _ H (Grow.refl _ _) (.bl _)⟩
      · cases e
    | _ => cases e
end
end DL

/-! startswith; t[::-1] -/
namespace HT
open PySem PySem.Spec PyProof.Rows L2
section
variable {prog : Program} {w : World} {A : Around} {E : Value → Shared → Prop} {s : Shared}
theorem rev_pick (xs : Array Value) : ((List.range xs.size).filterMap fun (m : Nat) => xs[((xs.size : Int) - 1 + (m : Int) * (-1)).toNat]?).toArray = xs.toList.reverse.toArray := by
  have h := PySem.W.krv_pick xs
  unfold slicePick at h
  rw [PySem.W.krv_bounds] at h
  have h : ((sliceRange ((xs.size : Int) - 1) (-1) (-1)).filterMap (xs[·]?)).toArray = xs.toList.reverse.toArray := h
  rw [PySem.W.krv_sliceRange, List.filterMap_map] at h
  rw [← h]
  congr 1
  refine congrArg (fun z => List.filterMap z _) ?_
  funext m
  show xs[((xs.size : Int) - 1 + (m : Int) * (-1)).toNat]? = xs[xs.size - 1 - m]?
  have e : ((xs.size : Int) - 1 + (m : Int) * (-1)).toNat = xs.size - 1 - m := by omega
  rw [e]
theorem sliceApplied_rev {sl : Addr} {vs : Value} {n : Nat} {Q : Int × Int × Nat → Shared → Prop} (hs : s.heap.IsSliceOf sl .none .none vs) (ps : IsPart vs (some (-1)))
    (h : Q ((n : Int) - 1, -1, n) s) : wpAny (model prog w) A (Builtin.Slice.sliceApplied (.ref sl) (pure (n : Int))) Q E s := by
  obtain ⟨os, hos, hcs, hds⟩ := id hs
  unfold Builtin.Slice.sliceApplied Builtin.Slice.sliceFields
  refine wpAny_bind (wpAny_bind (wpAny_field hos hds (x := .none) rfl (wpAny_bind (wpAny_field hos hds (x := .none) rfl (wpAny_bind (wpAny_field hos hds (x := vs) rfl (wpAny_pure ?_)))))))
  refine wpAny_bind (slicePart_ ps ?_)
  show wpAny _ _ (if ((-1 : Int) == 0) = true then _ else _) _ _ s
  rw [if_neg (by decide)]
  refine wpAny_bind (slicePart_none (wpAny_bind (slicePart_none (wpAny_bind (wpAny_pure ?_)))))
  show wpAny _ _ (pure ((n : Int) - 1, (-1 : Int), Builtin.Slice.slicePlaces ((n : Int) - 1) (-1) (-1))) _ _ s
  have e : Builtin.Slice.slicePlaces ((n : Int) - 1) (-1) (-1) = n := by
    unfold Builtin.Slice.slicePlaces
    rw [if_neg (by decide)]
    by_cases hz : (n : Int) - 1 > -1
    · rw [if_pos hz, show (- -1 : Int) = 1 by decide, Int.ediv_one]
      omega
    · rw [if_neg hz]
      omega
  rw [e]
  exact wpAny_pure h
theorem getItem_tuple_rev {t sl : Addr} {items : Array Value} {vs : Value} {Q : Value → Shared → Prop} (ht : IsTup s.heap t items) (hs : s.heap.IsSliceOf sl .none .none vs) (ps : IsPart vs (some (-1)))
    (h : Q (.ref s.heap.objs.size) { s with heap := s.heap.push { cls := .type "tuple", data := .seq items.toList.reverse.toArray } })
    (hsz : items.size ≤ sizeLine) : wpAny (model prog w) A (getItem (.ref t) (.ref sl)) Q E s := by
  have htake : sizeOk (.seq items.toList.reverse.toArray) := by
    show items.toList.reverse.toArray.size ≤ sizeLine
    rw [List.size_toArray, List.length_reverse, Array.length_toList]
    omega
  obtain ⟨os, hos, hcs, hds⟩ := id hs
  have hTs : s.TypeIs (.ref sl) "slice" := ⟨os, hos, hcs⟩
  unfold getItem
  try with_reducible refine wpAny_holding ?_
  first | refine wpAny_bind (wpAny_pure ?_) | skip
  refine wpAny_bind (wpAny_sequenceKey ht.typeIs (by decide) ?_)
  refine wpAny_bind (wpAny_callSpecial?_slot (name := Str.ofString "__getitem__") ht.typeIs PyProof.Rows.slot_tuple_getitem
    (wpAny_call_entry PyProof.Rows.slot_tuple_getitem ht.typeIs entry_tuple_getitem ?_ (args_tuple_getitem _ _)))
  show wpAny _ _ (Builtin.Tuple.tupleItemsOf (.ref t) >>= _) _ _ s
  refine wpAny_bind (tupleItemsOf_ ht ?_)
  refine wpAny_bind (wpAny_typeOf hTs ?_)
  rw [if_pos (by decide)]
  refine wpAny_bind (sliceApplied_rev hs ps ?_)
  have hno : ¬ ((((items.size : Int) - 1) == 0 && (-1 : Int) == 1 && items.size == items.size) = true) := by
    intro q
    rw [Bool.and_eq_true, Bool.and_eq_true] at q
    exact absurd q.1.2 (by decide)
  show wpAny _ _ (if (((items.size : Int) - 1) == 0 && (-1 : Int) == 1 && items.size == items.size) = true then _ else _) _ _ s
  rw [if_neg hno, rev_pick]
  first
    | exact wpAny_bind (m := Builtin.Tuple.tupleExact _) (wpAny_newObj_type (wpAny_pure ⟨_, rfl, wpAny_pure h⟩) htake)
    | exact wpAny_bind (m := Builtin.Tuple.tupleExact _) (wpAny_newObj_type (wpAny_bind (wpAny_pure (wpAny_pure ⟨_, rfl, wpAny_pure h⟩))) htake)
    | exact wpAny_bind (wpAny_bind (m := Builtin.Tuple.tupleExact _) (wpAny_newObj_type (wpAny_pure (wpAny_pure ⟨_, rfl, wpAny_pure h⟩)) htake))
    | exact wpAny_bind (wpAny_bind (m := Builtin.Tuple.tupleExact _) (wpAny_newObj_type (wpAny_pure ⟨_, rfl, wpAny_pure h⟩) htake))
end
end HT
namespace DL
open PySem PySem.Spec L2
section
variable {c : Cf} {X : Cx} {W : WX} {a b : Expr} {f g : M D} {fs : M (List D)} {pos : Pos}
/-! ### x.startswith(y) -/
def swD (d e : D) : Option D := match d, e with
  | .str x, .str y => some (.bool (Txt.startswith x y))
  | _, _ => none
def mSw (f g : M D) : M D := fun s => (f s).bind fun d s1 => match d with
  | .str x => (g s1).bind fun e s2 => lift (swD (.str x) e) s2
  | _ => .bad
theorem d_startswith {apos : Pos} (he : DE c X W a f) (hb : DE c X W b g)
    (hs : starEach [b] X.env = [(false, eval b X.env)] := by rfl) (hbase : attributeBase a "startswith" X.env (eval a X.env) = eval a X.env := by rfl) (hline : (apos.endLine == pos.line) = true := by rfl) :
    DE c X W (.Call (.Attribute a "startswith" apos) [b] [] pos) (mSw f g) := by
  obtain ⟨te, pe, se⟩ := he
  obtain ⟨tf, pf, sf⟩ := hb
  refine ⟨_, pe_m1 PySem.F.slot_str_startswith PySem.F.type_str_startswith mt_startswith pe pf hs hbase hline, ?_⟩
  intro O A σ H s r Q w
  refine se O A σ H s r _ (Wp.mono (Wp.bind w) ?_)
  intro d s1 H1 _ f1 r1 w1 v q
  cases d with
  | str x =>
    have e := dp_str q
    subst e
    refine ⟨⟨x, rfl⟩, sf O A σ H1 s1 r1 _ (Wp.mono (Wp.bind w1) ?_)⟩
    intro e s2 H2 _ f2 r2 w2 u q2
    cases e with
    | str y =>
      have e := dp_str q2
      subst e
      exact ⟨x, y, rfl, rfl, w2 H2 (Stp.refl _ _) r2 _ (.bl _)⟩
    | none => exact w2.elim
    | bool _ => exact w2.elim
    | int _ => exact w2.elim
    | list _ => exact w2.elim
    | tuple _ => exact w2.elim
    | dict _ => exact w2.elim
  | none => exact w1.elim
  | bool _ => exact w1.elim
  | int _ => exact w1.elim
  | list _ => exact w1.elim
  | tuple _ => exact w1.elim
  | dict _ => exact w1.elim
/-! ### t[::-1] -/
def rvD (d : D) : Option D := match d with
  | .tuple xs => some (.tuple xs.reverse)
  | _ => none
def mRev (f : M D) : M D := fun s => (f s).bind fun d s1 => lift (rvD d) s1
open PyProof.Rows in
def tRevT (K : PySem.W.Frag) (te : TE) : TE := fun σ H Q => te σ H fun x H1 => ∃ a xs, x = .ref a ∧ SqT K H1 a xs ∧ ∀ p, H1 p = none → Q (.ref p) (upd H1 p (.tup xs.reverse))
open PyProof.Rows in
theorem pe_revT {e : Expr} {te : TE} {k : Nat} {p1 p2 p3 pos : Pos} (he : PE X e te) : PE X (.Subscript e (.Slice none none (some (.UnaryOp .USub (.Constant (.int 1) k p1) p2)) p3) pos) (tRevT X.K te) := by
  refine ⟨fun pins s σ H Q I h => ?_⟩
  refine PyProof.Rows.Subscript_ (thn (he.run pins s σ H _ I h) fun v s1 ⟨x, H1, I1, r1, q1⟩ => ?_)
  obtain ⟨a, xs, ex, hx, q⟩ := q1
  subst ex
  cases r1
  have hst : PO X (some (.UnaryOp .USub (.Constant (.int 1) k p1) p2)) (tPart (tUn (rU fun i => .int (-i)) (tC (.int 1)))) := po_some (pe_un un_neg pe_int)
  refine wpAny_Slice (thn (po_none.run pins s1 σ H1 (fun o H2 => o = none ∧ H2 = H1) I1 ⟨rfl, rfl⟩) fun vl s2 ⟨l, H2, I2, pl, el, e2⟩ => ?_)
  subst el e2
  refine thn (po_none.run pins s2 σ H2 (fun o H3 => o = none ∧ H3 = H2) I2 ⟨rfl, rfl⟩) fun vu s3 ⟨u, H3, I3, pu, eu, e3⟩ => ?_
  subst eu e3
  refine thn (hst.run pins s3 σ H3 (fun o H4 => o = some (-1) ∧ H4 = H3) I3 ⟨1, rfl, -1, rfl, rfl, rfl⟩) fun vs s4 ⟨o, H4, I4, ps, eo, e4⟩ => ?_
  subst eo e4
  cases pl
  cases pu
  have I5 : Inv X pins σ H4 { s4 with heap := s4.heap.push { cls := .type "slice", data := .fields #[.none, .none, vs] } } := I4.kept (t' := s4.toks) fun b ob q => Heap.get?_push_of_some _ q
  obtain ⟨its, r, ht, hz⟩ := I5.tuple hx
  have hlen := r.length
  show wpAny (model X.prog X.w) X.A (subscriptTail e (.Slice none none (some (.UnaryOp .USub (.Constant (.int 1) k p1) p2)) p3) (.ref a) (.ref s4.heap.objs.size)) (EP X pins σ Q) X.xe { s4 with heap := s4.heap.push { cls := .type "slice", data := .fields #[.none, .none, vs] } }
  refine tail_any (ops := [.ref a, .ref s4.heap.objs.size]) ht.typeIs (PyProof.Rows.slot_tuple_getitem.lookup) ?_ (by with_unfolding_all rfl)
  refine HT.getItem_tuple_rev ht (Heap.IsSliceOf.new _ .none .none vs) ps ?_ (by rw [List.size_toArray]; omega)
  refine ⟨.ref _, _, I5.laid (t' := s4.toks) (o := .tup xs.reverse) (fun b ob q => Heap.get?_push_of_some _ q) (Nat.le_refl _) ?_, rfl, q _ (I5.hok.fresh (Nat.le_refl _))⟩
  exact ⟨by rw [List.length_reverse]; exact hz, _, r.reverse, IsTup.new _ _⟩
theorem d_rev {k : Nat} {p1 p2 p3 : Pos} (he : DE c X W a f) (hK : c.K = X.K := by rfl) : DE c X W (.Subscript a (.Slice none none (some (.UnaryOp .USub (.Constant (.int 1) k p1) p2)) p3) pos) (mRev f) := by
  obtain ⟨te, pe, se⟩ := he
  refine ⟨_, pe_revT pe, ?_⟩
  intro O A σ H s r Q w
  refine se O A σ H s r _ (Wp.mono (Wp.bind w) ?_)
  intro d s1 H1 _ f1 r1 w1 v q
  cases d with
  | tuple ds =>
    obtain ⟨p, xs, rfl, h1, h2⟩ := dp_tup q
    exact ⟨p, xs, rfl, hK ▸ (Sub.cut O H1).sqt h1, fun y hy => w1 _ ((Grow.new (c := c) hy).stp A) (r1.grow (Grow.new hy)) _ (dp_newT hy (r1.fresh hy) (dpa_rev h2))⟩
  | none => exact w1.elim
  | bool _ => exact w1.elim
  | int _ => exact w1.elim
  | str _ => exact w1.elim
  | list _ => exact w1.elim
  | dict _ => exact w1.elim
end
end DL

namespace DL
open PySem PySem.Spec L2
section
variable {c : Cf} {X : Cx} {W : WX} {a b : Expr} {f : M D} {ft : M Bool} {g h : G} {pos : Pos}
/-! ### while -/
def whileG (t : M Bool) (b : G) : Nat → G
  | 0 => fun _ => .bad
  | n + 1 => fun s => ex (t s) fun k s1 => if k = true then (match b s1 with
      | .nx s2 => whileG t b n s2
      | .ct s2 => whileG t b n s2
      | .brk s2 => .nx s2
      | .ret v s2 => .ret v s2
      | .err x s2 => .err x s2
      | .bad => .bad) else .nx s1
def sWhile (n : Nat) (t : M Bool) (b : G) : G := whileG t b n
theorem s_while (n : Nat) {test : Expr} {body : List Stmt} (hp : PassesOwn (model X.prog X.w) X.A X.env X.xe) (hc : DT c X W test ft) (hb : DSs c X W body g) : DS c X W (.While test body [] pos) (sWhile n ft g) := by
  obtain ⟨tc, pc, sc⟩ := hc
  obtain ⟨tb, pb, sb⟩ := hb
  refine ⟨_, ps_while hp pc pb, ?_⟩
  intro O A σ H s r E w
  have w : WpS c W O H (whileG ft g n s) E := w
  refine ⟨fun m σ' H' => ∃ O' A' s', Fwd O H O' H' ∧ Rel c O' A' σ' H' s' ∧ WpS c W O' H' (whileG ft g m s') E, ⟨n, O, A, s, Fwd.refl _ _, r, w⟩, ?_⟩
  rintro m σ' H' ⟨O', A', s', fw, r', w'⟩
  cases m with
  | zero => exact w'.elim
  | succ m =>
    refine sc O' A' σ' H' s' r' _ (Wp.mono (wp_ex r'.sub w') ?_)
    intro k s1 H1 _ f1 r1 w1
    have fw1 := fw.trans (f1.fwd r'.sub)
    cases k with
    | false =>
      refine (if_neg Bool.false_ne_true).mpr ?_
      have w1 : WpS c W O' H1 (.nx s1) E := w1
      exact w1 O' A' σ' H1 (Fwd.refl _ _) r1
    | true =>
      refine (if_pos rfl).mpr ?_
      have w1 : WpS c W O' H1 (match g s1 with | .nx s2 => whileG ft g m s2 | .ct s2 => whileG ft g m s2 | .brk s2 => .nx s2 | .ret v s2 => .ret v s2 | .err x s2 => .err x s2 | .bad => .bad) E := w1
      refine ⟨fun σ2 H2 => ∃ O2 A2 s2, Fwd O H O2 H2 ∧ Rel c O2 A2 σ2 H2 s2 ∧ WpS c W O2 H2 (whileG ft g m s2) E, fun σ2 H2 h => ⟨m, Nat.lt_succ_self _, h⟩, ?_⟩
      refine sb O' A' σ' H1 s1 r1 _ ?_
      cases zb : g s1 with
      | nx s3 =>
        rw [zb] at w1
        intro O3 A3 σ3 H3 f3 r3
        exact ⟨O3, A3, s3, fw1.trans f3, r3, WpS.fwd f3 w1⟩
      | ct s3 =>
        rw [zb] at w1
        intro O3 A3 σ3 H3 f3 r3
        exact ⟨O3, A3, s3, fw1.trans f3, r3, WpS.fwd f3 w1⟩
      | brk s3 => rw [zb] at w1; exact w1
      | ret v s3 => rw [zb] at w1; exact w1
      | err y s3 => rw [zb] at w1; exact w1
      | bad => rw [zb] at w1; exact w1
/-! ### text += text -/
def addS : D → D → Option D
  | .str x, .str y => if x.length + y.length ≤ sizeLine then some (.str (x ++ y)) else none
  | _, _ => none
theorem o_addS : Op2 c (fun x y H Q => ∃ i j, x = .str i ∧ y = .str j ∧ i.length + j.length ≤ sizeLine ∧ Q (.str (i ++ j)) H) addS := by
  intro O H x y v w d al e q1 q2 Q k
  cases v with
  | str i =>
    cases w with
    | str j =>
      have e : (if i.length + j.length ≤ sizeLine then some (PyData.str (i ++ j)) else none) = some d := e
      split at e
      · rename_i h
        have e := Option.some.inj e
        subst e
        exact ⟨i, j, dp_str q1, dp_str q2, h, k _ H (Grow.refl _ _) (.str _)⟩
      · cases e
    | _ => cases e
  | _ => cases e
end
end DL

namespace DL
open PySem PySem.Spec L2
/-! ### what is collected off a dict; sorting -/
section
open PySem.W PyProof.Rows PySem.Calls
variable {prog : Program} {w : World} {A : Around} {E : Value → Shared → Prop} {s : Shared} {T : String} {r d : Addr} {n : Nat} {P : Nat → Value → Prop} {OK : Heap → Prop}
theorem collect_kdl {Q : List Value → Shared → Prop} (K : KdlSrc prog w T r d n P OK) (hh : A.handled = none) (hok : OK s.heap) (hn : n ≤ sizeLine)
    (hQ : ∀ h' tk acc', s.heap.objs.size < h'.objs.size → (∀ b o, s.heap.get? b = some o → h'.get? b = some o) → ItemsOf P acc' n → Q acc'.toList { s with heap := h', toks := tk }) : wpAny (model prog w) A (collect (.ref r)) Q E s := by
  unfold collect
  refine wpAny_bind (wpAny_runValue (codeAny_builtin PySem.F.entry_proto_collect ?_))
  rw [Around.under_plainId PySem.F.plain_proto_collect _]
  show wpAny _ A.in1 (newList [] >>= fun l => again (.builtin "list.__iadd__" ⟨[l, .ref r], []⟩)) _ _ s
  refine wpAny_bind (wpAny_newObj_type ?_)
  refine wpAny_pure ⟨plainId_quiet PySem.F.plain_list_iadd _, codeAny_builtin PySem.F.entry_list_iadd ?_⟩
  rw [Around.under_plainId PySem.F.plain_list_iadd _]
  have hS : (s.heap.push { cls := .type "list", data := .seq ([] : List Value).toArray }).get? s.heap.objs.size = some { cls := .type "list", data := .seq #[] } := Heap.get?_push_size _ rfl
  have hlt := K.there _ hok
  show wpAny _ A.in1 (Builtin.List.listExtendWith (.ref s.heap.objs.size) (.ref r) (.ref s.heap.objs.size)) _ _ { s with heap := s.heap.push { cls := .type "list", data := .seq ([] : List Value).toArray } }
  refine kdl_extend (R := fun r s' => match r with
    | .ok (.ret v) => wpAny (model prog w) A (match v with
      | .ref a => (do
        let o ← load a
        match o.data with
        | .seq xs _ => pure xs.toList
        | _ => unsupported "internal:collect")
      | _ => unsupported "internal:collect") Q E s'
    | .ok _ => False
    | .error e => E e s') (s := { s with heap := s.heap.push { cls := .type "list", data := .seq ([] : List Value).toArray } }) K hh (K.keep _ _ hok fun b _ o e => Heap.get?_push_of_some _ e) s.heap.objs.size (Nat.ne_of_gt hlt.1) (Nat.ne_of_gt hlt.2) (.ref s.heap.objs.size) 0 hS (fun h' tk acc' c' hk hS' hacc => ?_) hn
  show wpAny _ A (load s.heap.objs.size >>= _) _ _ _
  refine wpAny_bind (wpAny_load hS' ?_)
  exact wpAny_pure (hQ h' tk acc' (Heap.lt_size hS') (fun b o e => hk b o (Nat.ne_of_lt (Heap.lt_size e)) (Heap.get?_push_of_some _ e)) hacc)
abbrev isStr (v : Value) (x : Str) : Prop := ∃ t : Tok, v = .str x t
theorem sorted_kdl (K : KdlSrc prog w T r d n P OK) (hh : A.handled = none) (hok : OK s.heap) (hn : n ≤ sizeLine) {bs : List Str} (hbs : ∀ acc : Array Value, ItemsOf P acc n → EachIs isStr acc.toList bs) (hu : A.units + 3 < cLine) {Q : Value → Shared → Prop}
    (h : ∀ h' tk p out c, s.heap.objs.size ≤ p → (∀ b o, s.heap.get? b = some o → h'.get? b = some o) → h'.get? p = some (seqObj "list" (List.toArray out) c) → EachIs isStr out (bs.mergeSort (dataLe false PyData.str)) → Q (.ref p) { s with heap := h', toks := tk }) :
    wpAny (model prog w) A (call (.builtin "sorted") [.ref r]) Q E s := by
  refine call_function_entry kind_sorted plain_sorted entry_sorted (args_sorted1 _) ?_
  unfold Builtin.«sorted»
  refine wpAny_bind (m := checkCount "sorted" 1 1 _) (wpAny_pure ?_)
  refine wpAny_bind (collect_kdl K hh hok hn fun h1 tk acc hlt k1 it => ?_)
  have e := hbs acc it
  have hsz : acc.toList.length ≤ sizeLine := by rw [Array.length_toList, it.1]; exact hn
  refine wpAny_bind (wpAny_newList ?_ hsz)
  have hp : (h1.push (seqObj "list" acc.toList.toArray 0)).get? h1.objs.size = some (seqObj "list" acc.toList.toArray 0) := Heap.get?_push_size _ rfl
  refine wpAny_bind (wpAny_holding (list_sort_data (R := isStr) (enc := PyData.str) hp e ?er ?hal ?hk ?hL ?hu fun out hl eo => ?fin))
  case er => exact e.mono fun v x ⟨t, hv⟩ => ⟨[], by rw [hv]; exact Reads.str x t, by simp⟩
  case hal => exact AllAlike.of fun _ _ => rfl
  case hk => exact Sortable.others (enc := PyData.str) fun _ => ⟨(fun z => by cases z), (fun _ z => by cases z)⟩
  case hL => rw [← e.length]; exact hsz
  case hu =>
    intro b _
    have h1 := Around.in1_units A
    have h2 := Around.in1_units A.in1
    show _ + 1 + 0 < cLine
    omega
  case fin =>
    refine wpAny_pure ⟨_, rfl, ?_⟩
    obtain ⟨c, hc⟩ := sortedHeap_at (vs := acc.toList) (out := out.toArray) hp
    refine h _ _ _ out c (Nat.le_of_lt hlt) (fun b o hb => ?_) hc eo
    have hb1 := k1 b o hb
    rw [sortedHeap_old (fun z => by rw [z] at hb1; exact Nat.lt_irrefl _ (Heap.lt_size hb1)) (Nat.lt_of_lt_of_le (Heap.lt_size hb1) (by rw [size_push']; exact Nat.le_succ _))]
    exact Heap.get?_push_of_some _ hb1
end
end DL

namespace DL
open PySem PySem.Spec L2
section
open PySem.W PyProof.Rows
theorem each_at {α β : Type} {R : α → β → Prop} : ∀ {as : List α} {bs : List β}, as.length = bs.length → (∀ (i : Nat) a b, as[i]? = some a → bs[i]? = some b → R a b) → EachIs R as bs
  | [], [], _, _ => .nil
  | [], _ :: _, h, _ => by simp at h
  | _ :: _, [], h, _ => by simp at h
  | a :: as, b :: bs, h, f => .cons (f 0 a b rfl rfl) (each_at (by simpa using h) fun i x y hx hy => f (i + 1) x y (by simpa using hx) (by simpa using hy))
theorem vals_strs {vs : List Value} {xs : List Str} (e : EachIs isStr vs xs) : Vals (xs.map V.str) vs := by
  induction e with
  | nil => exact .nil
  | cons h r ih => exact .cons h ih
def leS (x y : Str) : Bool := decide (x.cps.toList ≤ y.cps.toList)
theorem leS_eq : dataLe false PyData.str = leS := dataLe_str id
def rSortK : List V → Hp → VK → Prop := fun xs H Q => ∃ (d : Addr) (us : List (Key × V)) (ks : List Str), xs = [V.ref d] ∧ Rd H d (.dK us) ∧ us.map (·.1) = ks.map Sum.inr ∧ ∀ p, H p = none → Q (.ref p) (upd H p (.lst ((ks.mergeSort leS).map V.str)))
theorem call_sortedK {X : Cx} (hc : X.calm = true) (hu : X.A.units + 3 < cLine) : CallR X (.builtin "sorted") rSortK := by
  intro pins s σ H xs us Q I r h
  obtain ⟨d, ds, ks, rfl, hd, hk, q⟩ := h
  rw [Vals.ref1 r]
  obtain ⟨hz, hs, vs, kv, o, es, ep, ho, hx, hdt, hks, hpr, hnd⟩ := (show ObjOk X.prog X.w H s.heap d (.dK ds) from hd.ok I.hok)
  have hl1 : ds.length = vs.length := Paired.length kv
  have hl2 : ds.length = ks.length := by
    have := congrArg List.length hk
    simpa using this
  refine sorted_kdl (kdl_dict hs) (I.ok.hd hc) ⟨o, es, ho, hx, hdt, hks, hpr, hnd⟩ (by omega) (bs := ks) (fun acc it => each_at ?_ fun i v x hv hx => ?_) hu fun h' tk p out c hp keep hg eo => ?_
  · rw [Array.length_toList, it.1]; omega
  · obtain ⟨k, y, h1, h2⟩ := it.2 i v (by rw [← Array.getElem?_toList]; exact hv)
    have e1 : (vs.map (·.1))[i]? = some k := by rw [List.getElem?_map, h1]; rfl
    have e2 : vs.map (·.1) = ds.map (·.1) := by
      clear hpr hnd hl1 hl2 h1 e1 it hd hk q hz
      induction kv with
      | nil => rfl
      | cons h _ ih => rw [List.map_cons, List.map_cons, ih, h.1]
    rw [e2, hk, List.getElem?_map, hx] at e1
    have e1 : k = Sum.inr x := (Option.some.inj e1).symm
    subst e1
    have h2 : keyIs (Sum.inr x) v = true := h2
    rcases keyIs_shape h2 with ⟨i, t, z, _⟩ | ⟨y, t, z, e⟩
    · cases z
    · cases z
      exact ⟨t, e⟩
  · have hlen : ((ks.mergeSort leS).map V.str).length ≤ sizeLine := by rw [List.length_map, List.length_mergeSort]; omega
    rw [leS_eq] at eo
    refine ⟨.ref p, upd H p (.lst ((ks.mergeSort leS).map V.str)), I.laid (t' := tk) keep hp ⟨hlen, out, c, vals_strs eo, hg⟩, rfl, q p (I.hok.fresh hp)⟩
end
section
variable {c : Cf} {X : Cx} {W : WX} {a b : Expr} {f g : M D} {pos : Pos}
/-! ### dicts with texts as keys, as data -/
def keyIsS (x : Str) (p : D × D) : Bool := match p.1 with
  | .str y => decide (y = x)
  | _ => false
def dget (kvs : List (D × D)) (x : Str) : Option D := (kvs.find? (keyIsS x)).map (·.2)
def dput (kvs : List (D × D)) (x : Str) (d : D) : List (D × D) := if kvs.any (keyIsS x) = true then kvs.map (fun p => if keyIsS x p = true then (p.1, d) else p) else kvs ++ [(.str x, d)]
def skeys (kvs : List (D × D)) : List Str := kvs.filterMap fun p => match p.1 with | .str y => some y | _ => none
theorem kv_get {K : PySem.W.Frag} {G : Hp} {x : Str} : ∀ {kvs : List (D × D)} {us : List (Key × V)}, DpKv K G us kvs → (dget kvs x = none ∧ valV us (.inr x) = none) ∨ ∃ d v, dget kvs x = some d ∧ valV us (.inr x) = some v ∧ Dp K G v d
  | _, _, .nil => .inl ⟨rfl, rfl⟩
  | _, _, .cons (x := y) (v := v) (us := us) (d := d) (kvs := kvs) h r => by
    by_cases e : y = x
    · subst e
      refine .inr ⟨d, v, ?_, valV_pos rfl, h⟩
      unfold dget
      rw [List.find?_cons_of_pos (by exact decide_eq_true rfl)]
      rfl
    · have hk : keyIsS x (PyData.str y, d) = false := decide_eq_false e
      have e1 : dget ((.str y, d) :: kvs) x = dget kvs x := by
        unfold dget
        rw [List.find?_cons_of_neg (by rw [hk]; exact Bool.false_ne_true)]
      have e2 : valV ((.inr y, v) :: us) (.inr x : Key) = valV us (.inr x) := valV_neg fun z => e (by cases z; rfl)
      rw [e1, e2]
      exact kv_get r
theorem kv_any {K : PySem.W.Frag} {G : Hp} {x : Str} : ∀ {kvs : List (D × D)} {us : List (Key × V)}, DpKv K G us kvs → (us.any fun kv => decide (kv.1 = (.inr x : Key))) = kvs.any (keyIsS x)
  | _, _, .nil => rfl
  | _, _, .cons (x := y) (v := v) (us := us) (d := d) (kvs := kvs) h r => by
    rw [List.any_cons, List.any_cons, kv_any r]
    congr 1
    show decide ((Sum.inr y : Key) = .inr x) = decide (y = x)
    by_cases e : y = x
    · subst e; rw [decide_eq_true rfl, decide_eq_true rfl]
    · rw [decide_eq_false e, decide_eq_false fun z => e (by cases z; rfl)]
theorem kv_map {K : PySem.W.Frag} {G : Hp} {x : Str} {w : V} {e : D} (q : Dp K G w e) : ∀ {kvs : List (D × D)} {us : List (Key × V)}, DpKv K G us kvs → DpKv K G (us.map fun kv => if kv.1 = (.inr x : Key) then (kv.1, w) else kv) (kvs.map fun p => if keyIsS x p = true then (p.1, e) else p)
  | _, _, .nil => .nil
  | _, _, .cons (x := y) (v := v) (us := us) (d := d) (kvs := kvs) h r => by
    rw [List.map_cons, List.map_cons]
    by_cases z : y = x
    · subst z
      rw [if_pos (show (Sum.inr y, v).1 = (Sum.inr y : Key) from rfl), if_pos (show keyIsS y (PyData.str y, d) = true from decide_eq_true rfl)]
      exact .cons q (kv_map q r)
    · rw [if_neg (show ¬ (Sum.inr y, v).1 = (Sum.inr x : Key) from fun e => z (by cases e; rfl)), if_neg (show ¬ keyIsS x (PyData.str y, d) = true by rw [show keyIsS x (PyData.str y, d) = false from decide_eq_false z]; exact Bool.false_ne_true)]
      exact .cons h (kv_map q r)
theorem kv_app {K : PySem.W.Frag} {G : Hp} : ∀ {kvs es : List (D × D)} {us zs : List (Key × V)}, DpKv K G us kvs → DpKv K G zs es → DpKv K G (us ++ zs) (kvs ++ es)
  | _, _, _, _, .nil, h => h
  | _, _, _, _, .cons h r, q => .cons h (kv_app r q)
theorem kv_put {K : PySem.W.Frag} {G : Hp} {x : Str} {w : V} {e : D} {kvs : List (D × D)} {us : List (Key × V)} (h : DpKv K G us kvs) (q : Dp K G w e) : DpKv K G (putK us (.inr x) w) (dput kvs x e) := by
  unfold putK dput
  rw [kv_any h]
  by_cases z : kvs.any (keyIsS x) = true
  · rw [if_pos z, if_pos z]
    exact kv_map q h
  · rw [if_neg z, if_neg z]
    exact kv_app h (.cons q .nil)
theorem kv_keys {K : PySem.W.Frag} {G : Hp} : ∀ {kvs : List (D × D)} {us : List (Key × V)}, DpKv K G us kvs → us.map (·.1) = (skeys kvs).map Sum.inr
  | _, _, .nil => rfl
  | _, _, .cons (x := y) (v := v) (us := us) (d := d) (kvs := kvs) h r => by
    rw [List.map_cons, kv_keys r]
    rfl
end
end DL

namespace DL
open PySem PySem.Spec L2
/-! ### a dict of one's own, texts as keys -/
def setDic (i : Nat) (b : Bd) (s : Sts) : Option Sts := match s[i]? with
  | some .un => some (s.set i (.dic b))
  | some (.dat _) => some (s.set i (.dic b))
  | _ => none
def sNewK (i : Nat) : G := fun s => optG (setDic i (.k []) s)
def dkAt (s : Sts) (i : Nat) : Option (List (D × D)) := match s[i]? with
  | some (.dic (.k kvs)) => some kvs
  | _ => none
theorem dkAt_some {s : Sts} {i : Nat} {kvs : List (D × D)} (h : dkAt s i = some kvs) : s[i]? = some (.dic (.k kvs)) := by
  unfold dkAt at h
  split at h
  · rename_i e; cases h; exact e
  · cases h
/-- d[k] = e -/
def sPutK (i : Nat) (fk fv : M D) : G := fun s => ex (fv s) fun v s1 => match dkAt s1 i with
  | none => .bad
  | some _ => ex (fk s1) fun k s2 => match k, dkAt s2 i with
    | .str x, some kvs => if kvs.length < sizeLine then .nx (s2.set i (.dic (.k (dput kvs x v)))) else .bad
    | _, _ => .bad
/-- d[k], the dict one's own -/
def mGetK (i : Nat) (fk : M D) : M D := fun s => match dkAt s i with
  | none => .bad
  | some _ => (fk s).bind fun k s2 => match k, dkAt s2 i with
    | .str x, some kvs => lift (dget kvs x) s2
    | _, _ => .bad
/-- k in d, k not in d -/
def mInK (neg : Bool) (i : Nat) (fk : M D) : M D := fun s => (fk s).bind fun k s2 => match k, dkAt s2 i with
    | .str x, some kvs => .ok (.bool (neg != (dget kvs x).isSome)) s2
    | _, _ => .bad
/-- sorted(d) -/
def mSortK (i : Nat) : M (List D) := fun s => match dkAt s i with
  | some kvs => .ok (((skeys kvs).mergeSort leS).map .str) s
  | none => .bad
/-- a datum of a dict -/
def getD : D → D → Option D
  | .dict kvs, .str x => dget kvs x
  | _, _ => none
/-- a written dict: names and constants as values -/
inductive At where
  | var (i : Nat)
  | con (d : D)
def dictL : List (Str × At) → Sts → Option (List (D × D))
  | [], _ => some []
  | (k, .var i) :: r, s => match s[i]?, dictL r s with
    | some (.dat d), some kvs => some ((.str k, d) :: kvs)
    | _, _ => none
  | (k, .con d) :: r, s => (dictL r s).map ((.str k, d) :: ·)
def mergeD (kvs : List (D × D)) : List (D × D) := kvs.foldl (fun acc p => match p.1 with | .str x => dput acc x p.2 | _ => acc) []
def mDict (ps : List (Str × At)) : M D := fun s => match dictL ps s with
  | some kvs => if kvs.length ≤ 15 then .ok (.dict (mergeD kvs)) s else .bad
  | none => .bad
section
variable {c : Cf} {X : Cx} {W : WX} {a b : Expr} {f g fk fv : M D} {fs : M (List D)} {pos : Pos} {x : Str} {px : Pos}
theorem setDic_some {i : Nat} {b : Bd} {s s' : Sts} (e : setDic i b s = some s') : ∃ y, s[i]? = some y ∧ y.ow = false ∧ s' = s.set i (slb (.dic b)) := by
  unfold setDic at e
  cases z : s[i]? with
  | none => rw [z] at e; cases e
  | some y =>
    rw [z] at e
    cases y with
    | un => exact ⟨_, rfl, rfl, (Option.some.inj e).symm⟩
    | dat _ => exact ⟨_, rfl, rfl, (Option.some.inj e).symm⟩
    | own _ => cases e
    | dic _ => cases e
theorem s_newK (i : Nat) {p0 : Pos} (hN : X.N.Nodup) (hi : X.N[i]? = some x := by rfl) (hx : Loc X.env.scope x := by first | exact .inl rfl | exact .inr rfl) (hs : swapsWith (.Dict [] [] p0) (some (.Name x px)) pos.line X.env = pure false := by rfl)
    (hf : X.fn x = true ∨ X.env.scope.names.lookup x = some .local := by first | exact .inl rfl | exact .inr rfl) : DS c X W (.Assign [.Name x px] (.Dict [] [] p0) pos) (sNewK i) := by
  refine ⟨_, ps_set hN hi hx pe_dnewK hs hf, ?_⟩
  intro O A σ H s r E w
  unfold sNewK at w
  cases z : setDic i (.k []) s with
  | none => rw [z] at w; exact w.elim
  | some s' =>
    rw [z] at w
    obtain ⟨y, h1, h2, rfl⟩ := setDic_some z
    intro p hp
    obtain ⟨r', fw⟩ := r.setB (b := .dic (.k [])) h1 h2 hp nt_dK ⟨[], upd_same, .nil⟩
    have w : WpS c W O H (.nx (s.set i (slb (.dic (.k []))))) E := w
    exact w (p :: O) (p :: A) _ _ fw r'
theorem s_putK (i : Nat) {pos' : Pos} (hu : X.A.units + 1 < cLine) (hk : DE c X W a fk) (hv' : DE c X W b fv) (hN : X.N[i]? = some x := by rfl) (hv : Vis X.env.scope x := by first | exact Or.inl rfl | exact Or.inr (Or.inl rfl) | exact Or.inr (Or.inr rfl))
    (hd : (x == ("__debug__" : Str)) = false := by decide) (hcd : (x == ("__classdict__" : Str)) = false := by decide) (hs : swapsWith b (some (.Subscript (.Name x px) a pos')) pos.line X.env = pure false := by rfl) :
    DS c X W (.Assign [.Subscript (.Name x px) a pos'] b pos) (sPutK i fk fv) := by
  obtain ⟨tk, pk, sk⟩ := hk
  obtain ⟨tv, pv, sv⟩ := hv'
  refine ⟨_, ps_dput hu (pe_var hN hv hd hcd) pk pv hs, ?_⟩
  intro O A σ H s r E w
  refine sv O A σ H s r _ (Wp.mono (wp_ex r.sub w) ?_)
  intro v s1 H1 _ f1 r1 w1 vv qv
  cases z1 : dkAt s1 i with
  | none => rw [z1] at w1; exact w1.elim
  | some kvs1 =>
    rw [z1] at w1
    obtain ⟨l, hσ, hl, _⟩ := r1.dic (dkAt_some z1)
    refine ⟨.ref l, hσ, ?_⟩
    have w1 : WpS c W O H1 (ex (fk s1) fun k s2 => match k, dkAt s2 i with
      | .str x, some kvs => if kvs.length < sizeLine then .nx (s2.set i (.dic (.k (dput kvs x v)))) else .bad
      | _, _ => .bad) E := w1
    refine sk O A σ H1 s1 r1 _ (Wp.mono (wp_ex r1.sub w1) ?_)
    intro k s2 H2 _ f2 r2 w2 kk qk
    cases k with
    | str y =>
      cases z2 : dkAt s2 i with
      | none => rw [z2] at w2; exact w2.elim
      | some kvs =>
        rw [z2] at w2
        have w2 : WpS c W O H2 (if kvs.length < sizeLine then .nx (s2.set i (.dic (.k (dput kvs y v)))) else .bad) E := w2
        obtain ⟨l', hσ', hl', us, hus, quv⟩ := r2.dic (dkAt_some z2)
        rw [hσ] at hσ'
        cases hσ'
        by_cases hz : kvs.length < sizeLine
        · rw [if_pos hz] at w2
          have e := dp_str qk
          subst e
          have qv2 : Dp c.K (cut O H2) vv v := Sub.dp (f2.fwd r1.sub) qv
          refine ⟨l, upd H2 l (.dK (putK us (.inr y) vv)), rfl, DPut.k (k := .inr y) hus (by rw [dpk_len quv]; exact hz), ?_⟩
          have r3 := r2.chgB (b := .dic (.k kvs)) (b' := .dic (.k (dput kvs y v))) (H' := upd H2 l (.dK (putK us (.inr y) vv))) (dkAt_some z2) hσ hl' (fun a o n e _ => by rw [upd_ne n]; exact e) ⟨_, upd_same, by rw [cut_upd (r2.sub l hl')]; exact kv_put quv qv2⟩ (fun ⟨_, q⟩ => by cases q) (r2.tb.upd hus nt_dK)
          refine w2 O A σ _ ?_ r3
          show Sub (cut O H2) (cut O (upd H2 l _))
          rw [cut_upd (r2.sub l hl')]
          exact Sub.refl _
        · rw [if_neg hz] at w2; exact w2.elim
    | none => exact w2.elim
    | bool _ => exact w2.elim
    | int _ => exact w2.elim
    | list _ => exact w2.elim
    | tuple _ => exact w2.elim
    | dict _ => exact w2.elim
theorem d_getK (i : Nat) (hu : X.A.units + 1 < cLine) (hk : DE c X W a fk) (hN : X.N[i]? = some x := by rfl) (hv : Vis X.env.scope x := by first | exact Or.inl rfl | exact Or.inr (Or.inl rfl) | exact Or.inr (Or.inr rfl))
    (hd : (x == ("__debug__" : Str)) = false := by decide) (hcd : (x == ("__classdict__" : Str)) = false := by decide) (hs : NoSl a := by exact fun _ _ => rfl) : DE c X W (.Subscript (.Name x px) a pos) (mGetK i fk) := by
  obtain ⟨tk, pk, sk⟩ := hk
  refine ⟨_, pe_dget hu (pe_var hN hv hd hcd) pk hs, ?_⟩
  intro O A σ H s r Q w
  unfold mGetK at w
  cases z1 : dkAt s i with
  | none => rw [z1] at w; exact w.elim
  | some kvs1 =>
    rw [z1] at w
    obtain ⟨l, hσ, hl, _⟩ := r.dic (dkAt_some z1)
    refine ⟨.ref l, hσ, ?_⟩
    refine sk O A σ H s r _ (Wp.mono (Wp.bind w) ?_)
    intro k s2 H2 _ f2 r2 w2 kk qk
    cases k with
    | str y =>
      cases z2 : dkAt s2 i with
      | none => rw [z2] at w2; exact w2.elim
      | some kvs =>
        rw [z2] at w2
        have w2 : Wp c W O A σ H2 (lift (dget kvs y) s2) (PV c O Q) := w2
        obtain ⟨l', hσ', hl', us, hus, quv⟩ := r2.dic (dkAt_some z2)
        rw [hσ] at hσ'
        cases hσ'
        have e := dp_str qk
        subst e
        rcases kv_get (x := y) quv with ⟨h1, h2⟩ | ⟨d, v, h1, h2, q⟩
        · rw [h1] at w2; exact w2.elim
        · rw [h1] at w2
          exact ⟨l, v, rfl, h2 ▸ DGet.k (k := .inr y) hus, w2 H2 (Stp.refl _ _) r2 v q⟩
    | none => exact w2.elim
    | bool _ => exact w2.elim
    | int _ => exact w2.elim
    | list _ => exact w2.elim
    | tuple _ => exact w2.elim
    | dict _ => exact w2.elim
end
end DL

namespace DL
open PySem PySem.Spec L2
section
variable {c : Cf} {X : Cx} {W : WX} {a b : Expr} {f g fk fv : M D} {fs : M (List D)} {pos : Pos} {x : Str} {px : Pos}
theorem sem_inK (i : Nat) {tk : TE} (sk : SemE c W tk fk) : SemE c W (tDIn tk (tVar i)) (mInK false i fk) := by
  intro O A σ H s r Q w
  refine sk O A σ H s r _ (Wp.mono (Wp.bind w) ?_)
  intro k s2 H2 _ f2 r2 w2 kk qk
  cases k with
  | str y =>
    cases z2 : dkAt s2 i with
    | none => rw [z2] at w2; exact w2.elim
    | some kvs =>
      rw [z2] at w2
      have w2 : Wp c W O A σ H2 (.ok (.bool (false != (dget kvs y).isSome)) s2) (PV c O Q) := w2
      obtain ⟨l, hσ, hl, us, hus, quv⟩ := r2.dic (dkAt_some z2)
      have e := dp_str qk
      subst e
      refine ⟨.ref l, hσ, l, valV us (.inr y), rfl, DGet.k (k := .inr y) hus, ?_⟩
      have hb : (valV us (.inr y : Key)).isSome = (dget kvs y).isSome := by
        rcases kv_get (x := y) quv with ⟨h1, h2⟩ | ⟨d, v, h1, h2, q⟩ <;> rw [h1, h2] <;> rfl
      rw [hb]
      have := w2 H2 (Stp.refl _ _) r2 _ (.bl _)
      rwa [show (false != (dget kvs y).isSome) = (dget kvs y).isSome by cases (dget kvs y).isSome <;> rfl] at this
  | none => exact w2.elim
  | bool _ => exact w2.elim
  | int _ => exact w2.elim
  | list _ => exact w2.elim
  | tuple _ => exact w2.elim
  | dict _ => exact w2.elim
theorem sem_notInK (i : Nat) {tk : TE} (sk : SemE c W tk fk) : SemE c W (tDNotIn tk (tVar i)) (mInK true i fk) := by
  intro O A σ H s r Q w
  refine sk O A σ H s r _ (Wp.mono (Wp.bind w) ?_)
  intro k s2 H2 _ f2 r2 w2 kk qk
  cases k with
  | str y =>
    cases z2 : dkAt s2 i with
    | none => rw [z2] at w2; exact w2.elim
    | some kvs =>
      rw [z2] at w2
      have w2 : Wp c W O A σ H2 (.ok (.bool (true != (dget kvs y).isSome)) s2) (PV c O Q) := w2
      obtain ⟨l, hσ, hl, us, hus, quv⟩ := r2.dic (dkAt_some z2)
      have e := dp_str qk
      subst e
      refine ⟨.ref l, hσ, l, valV us (.inr y), rfl, DGet.k (k := .inr y) hus, ?_⟩
      have hb : (valV us (.inr y : Key)).isSome = (dget kvs y).isSome := by
        rcases kv_get (x := y) quv with ⟨h1, h2⟩ | ⟨d, v, h1, h2, q⟩ <;> rw [h1, h2] <;> rfl
      rw [hb]
      have := w2 H2 (Stp.refl _ _) r2 _ (.bl _)
      rwa [show (true != (dget kvs y).isSome) = !(dget kvs y).isSome by cases (dget kvs y).isSome <;> rfl] at this
  | none => exact w2.elim
  | bool _ => exact w2.elim
  | int _ => exact w2.elim
  | list _ => exact w2.elim
  | tuple _ => exact w2.elim
  | dict _ => exact w2.elim
theorem d_inK (i : Nat) (hu : X.A.units + 1 < cLine) (hk : DE c X W a fk) (hN : X.N[i]? = some x := by rfl) (hv : Vis X.env.scope x := by first | exact Or.inl rfl | exact Or.inr (Or.inl rfl) | exact Or.inr (Or.inr rfl))
    (hd : (x == ("__debug__" : Str)) = false := by decide) (hcd : (x == ("__classdict__" : Str)) = false := by decide) (hm : behindInMarks .In (.Name x px) = false := by rfl) : DE c X W (.Compare a [.In] [.Name x px] pos) (mInK false i fk) := by
  obtain ⟨tk, pk, sk⟩ := hk
  exact ⟨_, pe_cmp (pc_din hu pk (pe_var hN hv hd hcd)) hm, sem_inK i sk⟩
theorem t_inK (i : Nat) (hu : X.A.units + 1 < cLine) (hk : DE c X W a fk) (hN : X.N[i]? = some x := by rfl) (hv : Vis X.env.scope x := by first | exact Or.inl rfl | exact Or.inr (Or.inl rfl) | exact Or.inr (Or.inr rfl))
    (hd : (x == ("__debug__" : Str)) = false := by decide) (hcd : (x == ("__classdict__" : Str)) = false := by decide) (hm : behindInMarks .In (.Name x px) = false := by rfl) : DT c X W (.Compare a [.In] [.Name x px] pos) (mT (mInK false i fk)) := by
  obtain ⟨tk, pk, sk⟩ := hk
  exact ⟨_, pt_cmp (pc_din hu pk (pe_var hN hv hd hcd)) hm, sem_B (sem_inK i sk)⟩
theorem t_notInK (i : Nat) (hu : X.A.units + 1 < cLine) (hk : DE c X W a fk) (hN : X.N[i]? = some x := by rfl) (hv : Vis X.env.scope x := by first | exact Or.inl rfl | exact Or.inr (Or.inl rfl) | exact Or.inr (Or.inr rfl))
    (hd : (x == ("__debug__" : Str)) = false := by decide) (hcd : (x == ("__classdict__" : Str)) = false := by decide) (hm : behindInMarks .NotIn (.Name x px) = false := by rfl) : DT c X W (.Compare a [.NotIn] [.Name x px] pos) (mT (mInK true i fk)) := by
  obtain ⟨tk, pk, sk⟩ := hk
  exact ⟨_, pt_cmp (pc_dnotin hu pk (pe_var hN hv hd hcd)) hm, sem_B (sem_notInK i sk)⟩
/-! ### sorted(d) -/
theorem dp_strs {K : PySem.W.Frag} {G : Hp} : ∀ xs : List Str, DpAll K G (xs.map V.str) (xs.map PyData.str)
  | [] => .nil
  | x :: r => .cons (.str x) (dp_strs r)
theorem sem_sortK (i : Nat) : SemF c W (tCB rSortK (tCons (tVar i) tNil)) (mSortK i) := by
  intro O A σ H s r Q w
  unfold mSortK at w
  cases z : dkAt s i with
  | none => rw [z] at w; exact w.elim
  | some kvs =>
    rw [z] at w
    obtain ⟨l, hσ, hl, us, hus, quv⟩ := r.dic (dkAt_some z)
    refine ⟨.ref l, hσ, l, us, skeys kvs, rfl, .inl hus, kv_keys quv, fun p hp => ?_⟩
    have w : Wp c W O A σ H (.ok (((skeys kvs).mergeSort leS).map .str) s) (fun ds _ H' => ∀ p vs, H' p = none → DpAll c.K (cut O H') vs ds → Q (.ref p) (upd H' p (.lst vs))) := w
    exact w H (Stp.refl _ _) r p _ hp (dp_strs _)
theorem f_sortK (i : Nat) {p : Pos} (hu : X.A.units + 3 < cLine) (hm : X.mg "sorted" = none) (hc : X.calm = true := by rfl) (hg : Gl X "sorted" := by rfl) (hN : X.N[i]? = some x := by rfl) (hv : Vis X.env.scope x := by first | exact Or.inl rfl | exact Or.inr (Or.inl rfl) | exact Or.inr (Or.inr rfl))
    (hd : (x == ("__debug__" : Str)) = false := by decide) (hcd : (x == ("__classdict__" : Str)) = false := by decide)
    (he : starEach [.Name x px] X.env = (false, eval (.Name x px) X.env) :: starEach [] X.env := by rfl) (hpl : (backTo pos (starEach [] X.env)).any (·.1) = false := by rfl) : DF c X W (.Call (.Name "sorted" p) [.Name x px] [] pos) (mSortK i) :=
  ⟨_, pe_callB (call_sortedK hc hu) hg hm (by decide +kernel) (pa_cons (pe_var hN hv hd hcd) pa_nil he) (by decide) (by decide) he hpl, sem_sortK i⟩
/-! ### data's dicts -/
theorem sem_getD {ta tb : TE} (ha : SemE c W ta f) (hb : SemE c W tb g) : SemE c W (tDGet ta tb) (mMap2 f g getD) := by
  intro O A σ H s r Q w
  refine ha O A σ H s r _ (Wp.mono (Wp.bind w) ?_)
  intro d s1 H1 _ f1 r1 w1 v q
  refine hb O A σ H1 s1 r1 _ (Wp.mono (Wp.bind w1) ?_)
  intro k s2 H2 _ f2 r2 w2 kk qk
  cases d with
  | dict kvs =>
    cases k with
    | str y =>
      have w2 : Wp c W O A σ H2 (lift (dget kvs y) s2) (PV c O Q) := w2
      obtain ⟨l, us, rfl, hus, quv⟩ := dp_dict (Sub.dp (f2.fwd r1.sub) q)
      have e := dp_str qk
      subst e
      rcases kv_get (x := y) quv with ⟨h1, h2⟩ | ⟨d, v, h1, h2, q⟩
      · rw [h1] at w2; exact w2.elim
      · rw [h1] at w2
        exact ⟨l, v, rfl, .inl ⟨us, .inr y, (Sub.cut O H2).rdk hus, rfl, h2.symm⟩, w2 H2 (Stp.refl _ _) r2 v q⟩
    | none => exact w2.elim
    | bool _ => exact w2.elim
    | int _ => exact w2.elim
    | list _ => exact w2.elim
    | tuple _ => exact w2.elim
    | dict _ => exact w2.elim
  | none => exact w2.elim
  | bool _ => exact w2.elim
  | int _ => exact w2.elim
  | str _ => exact w2.elim
  | list _ => exact w2.elim
  | tuple _ => exact w2.elim
theorem d_ixd (hu : X.A.units + 1 < cLine) (ha : DE c X W a f) (hb : DE c X W b g) (hs : NoSl b := by exact fun _ _ => rfl) : DE c X W (.Subscript a b pos) (mMap2 f g getD) := by
  obtain ⟨ta, pa, sa⟩ := ha
  obtain ⟨tb, pb, sb⟩ := hb
  exact ⟨_, pe_dget hu pa pb hs, sem_getD sa sb⟩
/-! ### written dicts -/
def DPp (c : Cf) (X : Cx) (pos : Pos) (keys : List (Option Expr)) (values : List Expr) (ps : List (Str × At)) : Prop := ∃ trs, PPs X pos keys values trs ∧ ∀ O A σ H s, Rel c O A σ H s → ∀ kvs, dictL ps s = some kvs →
  ∃ us, DpKv c.K (cut O H) us kvs ∧ ∀ H1 (Q : List (V × V) → Hp → Prop), Q (us.map fun kv => (kV kv.1, kv.2)) H1 → tPairs trs σ H1 Q
theorem pp_nil : DPp c X pos [] [] [] := ⟨_, pps_nil, fun O A σ H s r kvs h => by
  cases h
  exact ⟨[], .nil, fun H1 Q q => q⟩⟩
theorem pp_var {k : Str} {j : Nat} {pk : Pos} {ks : List (Option Expr)} {vs : List Expr} {ps : List (Str × At)} (i : Nat) (h : DPp c X pos ks vs ps) (hN : X.N[i]? = some x := by rfl) (hv : Vis X.env.scope x := by first | exact Or.inl rfl | exact Or.inr (Or.inl rfl) | exact Or.inr (Or.inr rfl))
    (hd : (x == ("__debug__" : Str)) = false := by decide) (hcd : (x == ("__classdict__" : Str)) = false := by decide) : DPp c X pos (some (.Constant (.str k) j pk) :: ks) (.Name x px :: vs) ((k, .var i) :: ps) := by
  obtain ⟨trs, pp, q⟩ := h
  refine ⟨_, pps_cons pe_str (pe_var hN hv hd hcd) pp, fun O A σ H s r kvs e => ?_⟩
  have e : (match s[i]?, dictL ps s with | some (.dat d), some kvs => some ((PyData.str k, d) :: kvs) | _, _ => none) = some kvs := e
  cases z1 : s[i]? with
  | none => rw [z1] at e; cases e
  | some y =>
    rw [z1] at e
    cases y with
    | dat d =>
      cases z2 : dictL ps s with
      | none => rw [z2] at e; cases e
      | some kvs' =>
        rw [z2] at e
        cases e
        obtain ⟨us, h1, h2⟩ := q O A σ H s r kvs' z2
        obtain ⟨v, hσ, qv⟩ := r.dat z1
        exact ⟨(.inr k, v) :: us, .cons qv h1, fun H1 Q w => ⟨v, hσ, h2 H1 _ w⟩⟩
    | un => cases e
    | own _ => cases e
    | dic _ => cases e
theorem pp_str {k z : Str} {j j' : Nat} {pk pz : Pos} {ks : List (Option Expr)} {vs : List Expr} {ps : List (Str × At)} (h : DPp c X pos ks vs ps) : DPp c X pos (some (.Constant (.str k) j pk) :: ks) (.Constant (.str z) j' pz :: vs) ((k, .con (.str z)) :: ps) := by
  obtain ⟨trs, pp, q⟩ := h
  refine ⟨_, pps_cons pe_str pe_str pp, fun O A σ H s r kvs e => ?_⟩
  have e : (dictL ps s).map ((PyData.str k, PyData.str z) :: ·) = some kvs := e
  cases z2 : dictL ps s with
  | none => rw [z2] at e; cases e
  | some kvs' =>
    rw [z2] at e
    cases e
    obtain ⟨us, h1, h2⟩ := q O A σ H s r kvs' z2
    exact ⟨(.inr k, .str z) :: us, .cons (.str z) h1, fun H1 Q w => h2 H1 _ w⟩
theorem kv_merge {K : PySem.W.Frag} {G : Hp} : ∀ {kvs acc : List (D × D)} {us ac : List (Key × V)}, DpKv K G us kvs → DpKv K G ac acc → DpKv K G (us.foldl (fun acc kv => putK acc kv.1 kv.2) ac) (kvs.foldl (fun acc p => match p.1 with | .str x => dput acc x p.2 | _ => acc) acc)
  | _, _, _, _, .nil, h => h
  | _, _, _, _, .cons (us := us) (kvs := kvs) q r, h => kv_merge (kvs := kvs) (us := us) r (kv_put h q)
theorem dp_newK {O : List Addr} {K : PySem.W.Frag} {H : Hp} {p : Addr} {us : List (Key × V)} {kvs : List (D × D)} (hp : H p = none) (hO : p ∉ O) (q : DpKv K (cut O H) us kvs) : Dp K (cut O (upd H p (.dK us))) (.ref p) (.dict kvs) := by
  refine .dct (.inl ?_) (Sub.dpk (fun a o h _ => ?_) q)
  · rw [cut_out hO]; exact upd_same
  · obtain ⟨h1, h2⟩ := cut_some h
    rw [cut_out h1, upd_ne (ne_of_none h2 hp)]
    exact h2
theorem d_disp {keys : List (Option Expr)} {values : List Expr} {ps : List (Str × At)} (h : DPp c X pos keys values ps) (hall : keys.all (·.isSome) = true := by rfl) (hl : keys.length = values.length := by rfl) (h0 : keys ≠ [] := by exact fun z => by cases z)
    (h15 : keys.length ≤ 15 := by decide) : DE c X W (.Dict keys values pos) (mDict ps) := by
  obtain ⟨trs, pp, q⟩ := h
  refine ⟨_, pe_disp pp hall hl h0 h15, ?_⟩
  intro O A σ H s r Q w
  unfold mDict at w
  cases z : dictL ps s with
  | none => rw [z] at w; exact w.elim
  | some kvs =>
    rw [z] at w
    obtain ⟨us, h1, h2⟩ := q O A σ H s r kvs z
    by_cases hn : kvs.length ≤ 15
    · have w : Wp c W O A σ H (if kvs.length ≤ 15 then .ok (.dict (mergeD kvs)) s else .bad) (PV c O Q) := w
      rw [if_pos hn] at w
      intro p hp
      refine h2 _ _ ⟨upd_same, us, rfl, by rw [dpk_len h1]; exact hn, ?_⟩
      rw [upd_upd]
      exact w _ ((Grow.new (c := c) hp).stp A) (r.grow (Grow.new hp)) _ (dp_newK hp (r.fresh hp) (kv_merge h1 .nil))
    · have w : Wp c W O A σ H (if kvs.length ≤ 15 then .ok (.dict (mergeD kvs)) s else .bad) (PV c O Q) := w
      rw [if_neg hn] at w
      exact w.elim
end
end DL

namespace DL
open PySem PySem.Spec L2
section
variable {c : Cf} {X : Cx} {W : WX} {a b : Expr} {f g : M D} {pos : Pos}
/-! ### str(n), int(text) of one digit -/
def strD : List D → Option D
  | [.int i] => if btw (-1) 10 i = true then some (.str ⟨#[48 + i.toNat]⟩) else none
  | _ => none
theorem str_digit {i : Int} (h : btw (-1) 10 i = true) : (toString i : Str) = ⟨#[48 + i.toNat]⟩ ∧ i.natAbs.log2 < 1920 := by
  obtain ⟨h1, h2⟩ := btw_iff.mp h
  have e : i = 0 ∨ i = 1 ∨ i = 2 ∨ i = 3 ∨ i = 4 ∨ i = 5 ∨ i = 6 ∨ i = 7 ∨ i = 8 ∨ i = 9 := by omega
  rcases e with rfl | rfl | rfl | rfl | rfl | rfl | rfl | rfl | rfl | rfl <;> exact ⟨by decide +kernel, by decide +kernel⟩
theorem o_str : OpN c (fun xs H Q => ∃ i, xs = [.int i] ∧ i.natAbs.log2 < 1920 ∧ Q (.str (toString i)) H) strD := by
  intro O H xs vs d al e q Q k
  unfold strD at e
  split at e
  · rename_i i
    split at e
    · rename_i h
      have e := Option.some.inj e
      subst e
      obtain ⟨x, rfl, q1⟩ := dpa_one q
      have e2 := dp_int q1
      subst e2
      obtain ⟨h1, h2⟩ := str_digit h
      refine ⟨i, rfl, h2, ?_⟩
      rw [h1]
      exact k _ H (Grow.refl _ _) (.str _)
    · cases e
  · cases e
def intS : List D → Option D
  | [.str z] => match z.cps.toList with
    | [k] => if 48 ≤ k ∧ k ≤ 57 then some (.int ((k - 48 : Nat) : Int)) else none
    | _ => none
  | _ => none
theorem o_intS : OpN c (fun xs H Q => ∃ a n, xs = [.str a] ∧ PySem.intText? a = some n ∧ a.length ≤ 640 ∧ Q (.int n) H) intS := by
  intro O H xs vs d al e q Q k
  unfold intS at e
  split at e
  · rename_i z
    split at e
    · rename_i n hn
      split at e
      · rename_i h
        have e := Option.some.inj e
        subst e
        obtain ⟨x, rfl, q1⟩ := dpa_one q
        have e2 := dp_str q1
        subst e2
        have ez : z = SX.S [n] := by
          have := SX.S_tl z
          rw [hn] at this
          exact this.symm
        have hi := SX.int_S (a := [n]) (by simp [h.1, h.2]) (by simp) (by simp)
        have hv : PySem.NumText.digitsVal [n] = n - 48 := by
          have e : n = 48 + (n - 48) := by omega
          have h10 : n - 48 < 10 := by omega
          have := TL.numL_val (n - 48)
          rw [TL.numL_lt h10, ← e] at this
          exact this
        rw [hv] at hi
        refine ⟨z, ((n - 48 : Nat) : Int), rfl, by rw [ez]; exact hi, by rw [ez, SX.S_len]; exact (by decide : [0].length ≤ 640), k _ H (Grow.refl _ _) (.int _)⟩
      · cases e
    · cases e
  · cases e
/-! ### methods of texts -/
theorem sem_m1 {r : V → List V → Hp → VK → Prop} {op : D → D → Option D} {to te : TE} (ho : ∀ (O : List Addr) (H : Hp) (x y : Str) (d : D), op (.str x) (.str y) = some d → ∀ Q : VK, (∀ z H', Grow c H H' → Dp c.K (cut O H') z d → Q z H') → (∀ p : Addr, H p = none → p ∉ O) → r (.str x) [.str y] H Q)
    (hs : ∀ d e z, op d e = some z → ∃ x y, d = .str x ∧ e = .str y) (hf : SemE c W to f) (hg : SemE c W te g) : SemE c W (tM1 r to te) (fun s => (f s).bind fun d s1 => match d with | .str x => (g s1).bind fun e s2 => lift (op (.str x) e) s2 | _ => .bad) := by
  intro O A σ H s re Q w
  refine hf O A σ H s re _ (Wp.mono (Wp.bind w) ?_)
  intro d s1 H1 _ f1 r1 w1 v q
  cases d with
  | str x =>
    have e := dp_str q
    subst e
    refine ⟨⟨x, rfl⟩, hg O A σ H1 s1 r1 _ (Wp.mono (Wp.bind w1) ?_)⟩
    intro e s2 H2 _ f2 r2 w2 u q2
    cases z : op (.str x) e with
    | none =>
      have w2 : Wp c W O A σ H2 (lift (op (.str x) e) s2) (PV c O Q) := w2
      rw [z] at w2
      exact w2.elim
    | some d =>
      have w3 : Wp c W O A σ H2 (.ok d s2) (PV c O Q) := by
        have w2 : Wp c W O A σ H2 (lift (op (.str x) e) s2) (PV c O Q) := w2
        rw [z] at w2
        exact w2
      obtain ⟨_, y, _, rfl⟩ := hs _ _ _ z
      have e := dp_str q2
      subst e
      exact ho O H2 x y d z Q (fun z H' gr qz => w3 H' (gr.stp A) (r2.grow gr) z qz) (fun p hp => r2.fresh hp)
  | none => exact w1.elim
  | bool _ => exact w1.elim
  | int _ => exact w1.elim
  | list _ => exact w1.elim
  | tuple _ => exact w1.elim
  | dict _ => exact w1.elim
def mM1 (op : D → D → Option D) (f g : M D) : M D := fun s => (f s).bind fun d s1 => match d with | .str x => (g s1).bind fun e s2 => lift (op (.str x) e) s2 | _ => .bad
def spD : D → D → Option D
  | .str x, .str y => if (y.length == 0) = false ∧ x.length ≤ 1000000 then some (.list ((Txt.split x y).map .str)) else none
  | _, _ => none
def paD : D → D → Option D
  | .str x, .str y => if (y.length == 0) = false ∧ x.length ≤ 1000000 then some (.tuple [.str (Txt.partition x y).1, .str (Txt.partition x y).2.1, .str (Txt.partition x y).2.2]) else none
  | _, _ => none
theorem big_line {n : Nat} (h : n ≤ 1000000) : n + 2 ≤ sizeLine := Nat.le_trans (Nat.add_le_add_right h 2) (by decide)
theorem d_split {apos : Pos} (he : DE c X W a f) (hb : DE c X W b g)
    (hs : starEach [b] X.env = [(false, eval b X.env)] := by rfl) (hbase : attributeBase a "split" X.env (eval a X.env) = eval a X.env := by rfl) (hline : (apos.endLine == pos.line) = true := by rfl) :
    DE c X W (.Call (.Attribute a "split" apos) [b] [] pos) (mM1 spD f g) := by
  obtain ⟨te, pe, se⟩ := he
  obtain ⟨tf, pf, sf⟩ := hb
  refine ⟨_, pe_split pe pf hs hbase hline, sem_m1 (op := spD) ?_ ?_ se sf⟩
  · intro O H x y d e Q k hO
    have e : (if (y.length == 0) = false ∧ x.length ≤ 1000000 then some (PyData.list ((Txt.split x y).map .str)) else none) = some d := e
    split at e
    · rename_i h
      cases e
      refine ⟨x, y, rfl, rfl, h.1, big_line h.2, fun p hp => k _ _ (Grow.new hp) (dp_newL hp (hO p hp) (dp_strs _))⟩
    · cases e
  · intro d e z h
    cases d with
    | str x =>
      cases e with
      | str y => exact ⟨x, y, rfl, rfl⟩
      | _ => cases h
    | _ => cases h
theorem d_part {apos : Pos} (he : DE c X W a f) (hb : DE c X W b g)
    (hs : starEach [b] X.env = [(false, eval b X.env)] := by rfl) (hbase : attributeBase a "partition" X.env (eval a X.env) = eval a X.env := by rfl) (hline : (apos.endLine == pos.line) = true := by rfl) :
    DE c X W (.Call (.Attribute a "partition" apos) [b] [] pos) (mM1 paD f g) := by
  obtain ⟨te, pe, se⟩ := he
  obtain ⟨tf, pf, sf⟩ := hb
  refine ⟨_, pe_partition pe pf hs hbase hline, sem_m1 (op := paD) ?_ ?_ se sf⟩
  · intro O H x y d e Q k hO
    have e : (if (y.length == 0) = false ∧ x.length ≤ 1000000 then some (PyData.tuple [.str (Txt.partition x y).1, .str (Txt.partition x y).2.1, .str (Txt.partition x y).2.2]) else none) = some d := e
    split at e
    · rename_i h
      cases e
      refine ⟨x, y, rfl, rfl, h.1, Nat.le_trans (Nat.le_add_right _ 2) (big_line h.2), fun p hp => k _ _ (Grow.new hp) (dp_newT hp (hO p hp) (.cons (.str _) (.cons (.str _) (.cons (.str _) .nil))))⟩
    · cases e
  · intro d e z h
    cases d with
    | str x =>
      cases e with
      | str y => exact ⟨x, y, rfl, rfl⟩
      | _ => cases h
    | _ => cases h
/-! ### sep.join(a list of texts) -/
def strsOf : List D → Option (List Str)
  | [] => some []
  | .str x :: r => (strsOf r).map (x :: ·)
  | _ => none
theorem strsOf_ok {K : PySem.W.Frag} {G : Hp} : ∀ {ds : List D} {vs : List V} {ys : List Str}, strsOf ds = some ys → DpAll K G vs ds → vs = ys.map V.str
  | [], _, ys, h, q => by cases h; cases q; rfl
  | .str x :: r, vs, ys, h, q => by
    have h : (strsOf r).map (x :: ·) = some ys := h
    cases e : strsOf r with
    | none => rw [e] at h; cases h
    | some zs =>
      rw [e] at h
      cases h
      cases q with
      | cons q1 q2 =>
        rw [dp_str q1, strsOf_ok e q2]
        rfl
  | .none :: _, _, _, h, _ => by cases h
  | .bool _ :: _, _, _, h, _ => by cases h
  | .int _ :: _, _, _, h, _ => by cases h
  | .list _ :: _, _, _, h, _ => by cases h
  | .tuple _ :: _, _, _, h, _ => by cases h
  | .dict _ :: _, _, _, h, _ => by cases h
theorem strsOf_map : ∀ ys : List Str, strsOf (ys.map .str) = some ys
  | [] => rfl
  | y :: r => by
    show (strsOf (r.map .str)).map (y :: ·) = _
    rw [strsOf_map r]
    rfl
def joD : D → D → Option D
  | .str x, .list ds => match strsOf ds with
    | some ys => if (ys.map (·.length)).sum + ys.length * x.length ≤ 16777216 then some (.str (Txt.join x ys)) else none
    | none => none
  | _, _ => none
theorem d_join {apos : Pos} (he : DE c X W a f) (hb : DE c X W b g) (hK : c.K = X.K := by rfl)
    (hs : starEach [b] X.env = [(false, eval b X.env)] := by rfl) (hbase : attributeBase a "join" X.env (eval a X.env) = eval a X.env := by rfl) (hline : (apos.endLine == pos.line) = true := by rfl) :
    DE c X W (.Call (.Attribute a "join" apos) [b] [] pos) (mM1 joD f g) := by
  obtain ⟨te, pe, se⟩ := he
  obtain ⟨tf, pf, sf⟩ := hb
  refine ⟨_, pe_join pe pf hs hbase hline, ?_⟩
  intro O A σ H s r Q w
  refine se O A σ H s r _ (Wp.mono (Wp.bind w) ?_)
  intro d s1 H1 _ f1 r1 w1 v q
  cases d with
  | str x =>
    have e := dp_str q
    subst e
    refine ⟨⟨x, rfl⟩, sf O A σ H1 s1 r1 _ (Wp.mono (Wp.bind w1) ?_)⟩
    intro e s2 H2 _ f2 r2 w2 u q2
    cases e with
    | list ds =>
      have w2 : Wp c W O A σ H2 (lift (match strsOf ds with | some ys => if (ys.map (·.length)).sum + ys.length * x.length ≤ 16777216 then some (PyData.str (Txt.join x ys)) else none | none => none) s2) (PV c O Q) := w2
      cases z : strsOf ds with
      | none => rw [z] at w2; exact w2.elim
      | some ys =>
        rw [z] at w2
        by_cases hn : (ys.map (·.length)).sum + ys.length * x.length ≤ 16777216
        · have w2 : Wp c W O A σ H2 (lift (if (ys.map (·.length)).sum + ys.length * x.length ≤ 16777216 then some (PyData.str (Txt.join x ys)) else none) s2) (PV c O Q) := w2
          rw [if_pos hn] at w2
          obtain ⟨l, vs, rfl, h1, h2⟩ := dp_list q2
          rw [strsOf_ok z h2] at h1
          exact ⟨x, l, ys, rfl, rfl, .inl (hK ▸ (Sub.cut O H2).sql h1), hn, w2 H2 (Stp.refl _ _) r2 _ (.str _)⟩
        · have w2 : Wp c W O A σ H2 (lift (if (ys.map (·.length)).sum + ys.length * x.length ≤ 16777216 then some (PyData.str (Txt.join x ys)) else none) s2) (PV c O Q) := w2
          rw [if_neg hn] at w2
          exact w2.elim
    | str y => exact w2.elim
    | none => exact w2.elim
    | bool _ => exact w2.elim
    | int _ => exact w2.elim
    | tuple _ => exact w2.elim
    | dict _ => exact w2.elim
  | none => exact w1.elim
  | bool _ => exact w1.elim
  | int _ => exact w1.elim
  | list _ => exact w1.elim
  | tuple _ => exact w1.elim
  | dict _ => exact w1.elim
/-! ### written dicts of the module, text by text -/
def KDc (K : PySem.W.Frag) (w : World) (mg : Str → Option Value) (x : Str) (tbl : List (Str × Str)) : Prop := ∃ a es n, mg x = some (.ref a) ∧ KDict K w a es n ∧
  ∀ z, match tbl.lookup z with
    | some v => ∃ t, PySem.W.nsIn K a z = some (some (.str v t))
    | none => PySem.W.nsIn K a z = some none
def kvStr (e : DictEntry) : Option (Str × Int × Str) := match e.key, e.val with
  | .str x _, .str y _ => some (x, e.hash, y)
  | _, _ => none
theorem kvStr_some {e : DictEntry} {x y : Str} {h : Int} (q : kvStr e = some (x, h, y)) : (∃ t, e.key = .str x t) ∧ e.hash = h ∧ ∃ t, e.val = .str y t := by
  obtain ⟨k, v, hh⟩ := e
  unfold kvStr at q
  split at q
  · rename_i x t y u e1 e2
    cases q
    exact ⟨⟨t, e1⟩, rfl, ⟨u, e2⟩⟩
  · cases q
theorem kdc_keys {P : Params} : ∀ {l : List DictEntry} {tbl : List (Str × Str)}, l.map kvStr = tbl.map (fun p => some (p.1, PyData.keyHash P p.1, p.2)) → PySem.W.KeysLit P l
  | [], _, _ => trivial
  | e :: r, [], h => by cases h
  | e :: r, p :: t, h => by
    have h : kvStr e :: r.map kvStr = some (p.1, PyData.keyHash P p.1, p.2) :: t.map (fun p => some (p.1, PyData.keyHash P p.1, p.2)) := h
    injection h with h1 h2
    obtain ⟨⟨u, e1⟩, e2, _⟩ := kvStr_some h1
    exact ⟨⟨p.1, u, e1, e2⟩, kdc_keys h2⟩
theorem kdc_find {P : Params} {z : Str} : ∀ {l : List DictEntry} {tbl : List (Str × Str)}, l.map kvStr = tbl.map (fun p => some (p.1, PyData.keyHash P p.1, p.2)) →
    (match tbl.lookup z with
    | some v => ∃ e t, l.find? (·.key.isStr z) = some e ∧ e.val = .str v t
    | none => l.find? (·.key.isStr z) = none ∧ l.any (·.refKey) = false)
  | [], [], _ => ⟨rfl, rfl⟩
  | [], _ :: _, h => by cases h
  | e :: r, [], h => by cases h
  | e :: r, p :: t, h => by
    have h : kvStr e :: r.map kvStr = some (p.1, PyData.keyHash P p.1, p.2) :: t.map (fun p => some (p.1, PyData.keyHash P p.1, p.2)) := h
    injection h with h1 h2
    obtain ⟨⟨u, e1⟩, e2, u', e3⟩ := kvStr_some h1
    have ih := kdc_find (z := z) h2
    have hk : e.key.isStr z = (z == p.1) := by
      rw [e1]
      show (p.1 == z) = (z == p.1)
      rw [Bool.eq_iff_iff, beq_iff_eq, beq_iff_eq]
      exact ⟨Eq.symm, Eq.symm⟩
    rw [List.lookup_cons]
    cases hz : (z == p.1) with
    | true =>
      rw [hz] at hk
      exact ⟨e, u', by rw [List.find?_cons, hk], e3⟩
    | false =>
      rw [hz] at hk
      have hr : e.refKey = false := by
        unfold DictEntry.refKey
        rw [e1]
      cases q : t.lookup z with
      | some v =>
        rw [q] at ih
        obtain ⟨e', t', a1, a2⟩ := ih
        exact ⟨e', t', by rw [List.find?_cons, hk]; exact a1, a2⟩
      | none =>
        rw [q] at ih
        exact ⟨by rw [List.find?_cons, hk]; exact ih.1, by rw [List.any_cons, hr, ih.2]; rfl⟩
theorem kdc_mk {K : PySem.W.Frag} {w : World} {mg : Str → Option Value} {x : Str} {a : Addr} {es : Array DictEntry} {n : Nat} {tbl : List (Str × Str)} (hm : mg x = some (.ref a)) (hl : K.lookup a = some ⟨.type "dict", none, .dict es n, #[]⟩) (ha : (a == sysModules) = false)
    (h : es.toList.map kvStr = tbl.map (fun p => some (p.1, PyData.keyHash w.params p.1, p.2))) : KDc K w mg x tbl := by
  refine ⟨a, es, n, hm, ⟨hl, kdc_keys h, ha⟩, fun z => ?_⟩
  have q := kdc_find (z := z) h
  cases e : tbl.lookup z with
  | some v =>
    rw [e] at q
    obtain ⟨en, t, a1, a2⟩ := q
    refine ⟨t, ?_⟩
    unfold PySem.W.nsIn
    rw [hl]
    dsimp only
    rw [a1]
    dsimp only
    rw [a2]
  | none =>
    rw [e] at q
    show PySem.W.nsIn K a z = some none
    unfold PySem.W.nsIn
    rw [hl]
    dsimp only
    rw [q.1]
    dsimp only
    rw [q.2]
    rfl
def kdD (tbl : List (Str × Str)) : D → Option D
  | .str z => (tbl.lookup z).map .str
  | _ => none
def kinD (tbl : List (Str × Str)) : D → Option D
  | .str z => some (.bool (tbl.lookup z).isSome)
  | _ => none
theorem d_kd {x : Str} {px : Pos} {tbl : List (Str × Str)} (h : KDc X.K X.w X.mg x tbl) (hb : DE c X W b g) (hg : Gl X x := by rfl) (hd : (x == ("__debug__" : Str)) = false := by decide) (hs : PlainIx b := by exact fun _ _ => rfl) : DE c X W (.Subscript (.Name x px) b pos) (mMap g (kdD tbl)) := by
  obtain ⟨l, es, n, hm, kd, hv⟩ := h
  obtain ⟨tb, pb, sb⟩ := hb
  refine ⟨_, pe_ix ix_kdict (pe_glob (v := .ref l) hg hm rfl hd) pb hs, ?_⟩
  intro O A σ H s r Q w
  refine sb O A σ H s r _ (Wp.mono (Wp.bind w) ?_)
  intro d s1 H1 _ f1 r1 w1 v q
  cases d with
  | str z =>
    have e := dp_str q
    subst e
    have w1 : Wp c W O A σ H1 (lift ((tbl.lookup z).map PyData.str) s1) (PV c O Q) := w1
    have hz := hv z
    cases y : tbl.lookup z with
    | none => rw [y] at w1; exact w1.elim
    | some u =>
      rw [y] at w1 hz
      obtain ⟨t, hz⟩ := hz
      exact ⟨l, z, .str u, rfl, rfl, ⟨es, n, _, kd.at_, kd.lit, hz, ⟨t, rfl⟩⟩, w1 H1 (Stp.refl _ _) r1 _ (.str _)⟩
  | none => exact w1.elim
  | bool _ => exact w1.elim
  | int _ => exact w1.elim
  | list _ => exact w1.elim
  | tuple _ => exact w1.elim
  | dict _ => exact w1.elim
theorem sem_kin {x : Str} {tbl : List (Str × Str)} {l : Addr} {es : Array DictEntry} {n : Nat} {tb : TE} (hv : ∀ z, match tbl.lookup z with | some v => ∃ t, PySem.W.nsIn X.K l z = some (some (.str v t)) | none => PySem.W.nsIn X.K l z = some none) (sb : SemE c W tb g) :
    SemE c W (tOp (fun x y H Q => ∃ (z : Str) (r : Option Value), x = .str z ∧ y = .ref l ∧ PySem.W.nsIn X.K l z = some r ∧ Q (.bl r.isSome) H) tb (tC (.ref l))) (mMap g (kinD tbl)) := by
  intro O A σ H s r Q w
  refine sb O A σ H s r _ (Wp.mono (Wp.bind w) ?_)
  intro d s1 H1 _ f1 r1 w1 v q
  cases d with
  | str z =>
    have e := dp_str q
    subst e
    have w1 : Wp c W O A σ H1 (.ok (.bool (tbl.lookup z).isSome) s1) (PV c O Q) := w1
    have hz := hv z
    cases y : tbl.lookup z with
    | none =>
      rw [y] at w1 hz
      exact ⟨z, none, rfl, rfl, hz, w1 H1 (Stp.refl _ _) r1 _ (.bl _)⟩
    | some u =>
      rw [y] at w1 hz
      obtain ⟨t, hz⟩ := hz
      exact ⟨z, _, rfl, rfl, hz, w1 H1 (Stp.refl _ _) r1 _ (.bl _)⟩
  | none => exact w1.elim
  | bool _ => exact w1.elim
  | int _ => exact w1.elim
  | list _ => exact w1.elim
  | tuple _ => exact w1.elim
  | dict _ => exact w1.elim
theorem d_kin {x : Str} {px : Pos} {tbl : List (Str × Str)} (h : KDc X.K X.w X.mg x tbl) (hb : DE c X W b g) (hg : Gl X x := by rfl) (hd : (x == ("__debug__" : Str)) = false := by decide) (hm : behindInMarks .In (.Name x px) = false := by rfl) : DE c X W (.Compare b [.In] [.Name x px] pos) (mMap g (kinD tbl)) := by
  obtain ⟨l, es, n, hmg, kd, hv⟩ := h
  obtain ⟨tb, pb, sb⟩ := hb
  exact ⟨_, pe_cmpR (op_in_kd kd) pb (pe_glob (v := .ref l) hg hmg rfl hd) hm, sem_kin (x := x) (es := es) (n := n) hv sb⟩
theorem t_kin {x : Str} {px : Pos} {tbl : List (Str × Str)} (h : KDc X.K X.w X.mg x tbl) (hb : DE c X W b g) (hg : Gl X x := by rfl) (hd : (x == ("__debug__" : Str)) = false := by decide) (hm : behindInMarks .In (.Name x px) = false := by rfl) : DT c X W (.Compare b [.In] [.Name x px] pos) (mT (mMap g (kinD tbl))) := by
  obtain ⟨l, es, n, hmg, kd, hv⟩ := h
  obtain ⟨tb, pb, sb⟩ := hb
  exact ⟨_, pt_cmpR (op_in_kd kd) pb (pe_glob (v := .ref l) hg hmg rfl hd) hm, sem_test (sem_kin (x := x) (es := es) (n := n) hv sb)⟩
end
end DL

namespace DL
open PySem PySem.Spec L2
section
variable {c : Cf} {X : Cx} {W : WX} {a b : Expr} {f g : M D} {fs : M (List D)} {pos : Pos}
theorem op_eqU {A : Around} {k : Nat} (hr : Room k A) (h : X.A.units = A.units := by rfl) : OpR X (compareOp .Eq) (rEqA X.K) := OpR.or op_eq (op_eqD (h ▸ hr.units))
theorem op_neU {A : Around} {k : Nat} (hr : Room k A) (h : X.A.units = A.units := by rfl) : OpR X (compareOp .NotEq) (rNeA X.K) := OpR.or op_ne (op_neD (h ▸ hr.units))
/-! ### a, b = x, y with names alone -/
def sPar (i j : Nat) (fa : M (List D)) : G := fun s => ex (fa s) fun ds s1 => match ds with
  | [d, e] => (match tName i d s1 with
    | some s2 => (match tName j e s2 with
      | some s3 => .nx s3
      | none => .bad)
    | none => .bad)
  | _ => .bad
theorem s_par (i j : Nat) {x y : Str} {px py pt : Pos} {kt k2 : Nat} {pt2 : Pos} (ha : DA c X W [a, b] fs) (hN : X.N.Nodup)
    (hw : swappedStores [.Tuple [.Name x px, .Name y py] kt pt] (.Tuple [a, b] k2 pt2) X.env = pure (some [x, y]) := by rfl) (hc : X.calm = true := by rfl) (hi : X.N[i]? = some x := by rfl) (hj : X.N[j]? = some y := by rfl) (hij : i ≠ j := by decide)
    (hx : X.env.scope.names.lookup x = some .local := by rfl) (hy : X.env.scope.names.lookup y = some .local := by rfl)
    (hs : swapsWithSole [.Tuple [.Name x px, .Name y py] kt pt] (.Tuple [a, b] k2 pt2) pos.line X.env = pure false := by rfl) :
    DS c X W (.Assign [.Tuple [.Name x px, .Name y py] kt pt] (.Tuple [a, b] k2 pt2) pos) (sPar i j fs) := by
  obtain ⟨ta, pa, sa⟩ := ha
  refine ⟨_, ps_par hc hN hi hj hij hx hy pa hw hs, ?_⟩
  intro O A σ H s r E w
  unfold sPar at w
  refine sa O A σ H s r _ (Wp.mono (wp_ex r.sub w) ?_)
  intro ds s1 H1 _ f1 r1 w1 vs q
  match ds, vs, q, w1 with
  | [d, e], [v, w], .cons q1 (.cons q2 .nil), w1 =>
    have w1 : WpS c W O H1 (match tName i d s1 with | some s2 => (match tName j e s2 with | some s3 => .nx s3 | none => .bad) | none => .bad) E := w1
    cases z1 : tName i d s1 with
    | none => rw [z1] at w1; exact w1.elim
    | some s2 =>
      rw [z1] at w1
      have w1 : WpS c W O H1 (match tName j e s2 with | some s3 => .nx s3 | none => .bad) E := w1
      cases z2 : tName j e s2 with
      | none => rw [z2] at w1; exact w1.elim
      | some s3 =>
        rw [z2] at w1
        exact ⟨_, _, rfl, w1 O A _ H1 (Fwd.refl _ _) ((r1.setD z1 q1).setD z2 q2)⟩
  | [], _, _, w1 => exact w1.elim
  | [_], _, _, w1 => exact w1.elim
  | _ :: _ :: _ :: _, _, _, w1 => exact w1.elim
end
end DL

/-! a comprehension whose element may raise -/
namespace DL
open PySem PySem.Spec PyProof.Rows L2
/-! ### an exception that passes the block -/
theorem noteFrame_frame {e : Value} {env env' : Env} (h : env.frame = env'.frame) : noteFrame e env = noteFrame e env' := by
  unfold noteFrame PySem.frameOf
  rw [h]
section
open HandSPX
variable {M : Model} {A : Around} {E : Value → Shared → Prop} {s : Shared} {Z : Obj → Prop} {base : Heap} {env : Env} {outer l : List Env} {L C e : Addr}
/-- held by another hand -/
theorem looks_otherZ {Q : Unit → Shared → Prop} (hZ : Steady Z) (hfr : A.frames = some (env :: outer)) (hf : env.frame = some L) (hfl : HeldZ base (env :: outer) e Z C s.heap) (hne : C ≠ L)
    (hQ : ∀ h', HeldZ base (env :: outer) e Z L h' → s.heap.UpToSlots h' → Q () { s with heap := h' }) : wpAny M A (noteFrame (.ref e) env) Q E s := by
  obtain ⟨hkb, hen, hl, oe, vs, T, oT, ts, he, hz, hd, h1, hnT, hTe, hT, hdT, h3⟩ := hfl
  unfold noteFrame
  simp only [hf]
  refine wpAny_bind (wpAny_field he hd h1 ?_)
  rw [if_pos (show (Value.ref T != Value.none) = true from by simp)]
  refine wpAny_bind (wpAny_field hT hdT h3 ?_)
  rw [if_neg (show ¬ ((rawInt C == rawInt L) = true) from by simp only [rawInt, beq_iff_eq, Value.int.injEq, not_and]; intro q; exact absurd (Int.ofNat.inj q) hne)]
  refine wpAny_bind (wpAny_setField hT hdT (Array.getElem?_eq_some_iff.mp h3).1 ?_)
  have other : ∀ b, b ≠ T → (s.heap.update T (Obj.mapFields (·.setIfInBounds 3 Value.none))).get? b = s.heap.get? b := fun b hb => Heap.get?_update_other _ _ (Ne.symm hb)
  have plain : ∀ b o, s.heap.get? b = some o → (∀ vs, o.data ≠ .fields vs) → b ≠ T := fun b o hb hnf q => by
    rw [q, hT] at hb; cases hb; exact hnf ts hdT
  refine wpAny_entryZ hZ hfr (hl.of_keeps fun b o hb hnf => ⟨o, (other b (plain b o hb hnf)).trans hb, rfl⟩) hf ((other e (Ne.symm hTe)).trans he)
    (fun b o hbo => (other b fun q => by rw [q, hnT] at hbo; cases hbo).trans (hkb b o hbo)) hen hd (Array.getElem?_eq_some_iff.mp h1).1 hz fun h' hN => ?_
  obtain ⟨x1, x2, x3, x4⟩ := hN
  exact hQ h' ⟨x1, hen, x2, x3⟩ fun b o hb hnf => x4 b o ((other b (plain b o hb hnf)).trans hb) hnf
theorem funFrames_hide {h h' : Heap} : ∀ {l : List Env}, h.FunFrames base l → (∀ b ∈ frs l, b ≠ C) → (∀ b o, b ≠ C → h.get? b = some o → h'.get? b = some o) → h'.FunFrames (PySem.W.hideAll base [C]) l
  | [], _, _, _ => trivial
  | env :: r, x, hn, k => by
    obtain ⟨x1, ⟨L, o, y1, y2, y3, y4⟩, x3⟩ := x
    have hL : L ∈ frs (env :: r) := List.mem_filterMap.mpr ⟨env, List.mem_cons_self, y1⟩
    refine ⟨x1, ⟨L, o, y1, ?_, k L o (hn L hL) y3, y4⟩, funFrames_hide x3 (fun b hb => hn b ?_) k⟩
    · cases q : (PySem.W.hideAll base [C]).get? L with
      | none => rfl
      | some o' =>
        have z := PySem.W.of_hideAll _ q
        rw [y2] at z; cases z
    · obtain ⟨e, he, q⟩ := List.mem_filterMap.mp hb
      exact List.mem_filterMap.mpr ⟨e, List.mem_cons_of_mem _ he, q⟩
/-- the block's variables are let go: what was noted stays so, over a ground without them -/
theorem held_letGo {h h' : Heap} {m : Str → Option Value} (x : HeldZ base l e Z L h) (hC : h.Ns C m) (hn : ∀ b ∈ frs l, b ≠ C) (sb : Heap.SameBut C h h') : HeldZ (PySem.W.hideAll base [C]) l e Z L h' := by
  obtain ⟨k1, k2, k3, oe, vs, T, oT, ts, he, hz, hd, h1, hnT, hTe, hT, hdT, h3⟩ := x
  obtain ⟨oC, es, ep, hoC, hdC, _⟩ := hC
  have keep : ∀ b o, b ≠ C → h.get? b = some o → h'.get? b = some o := fun b o hb q => (sb.2 b hb).trans q
  have eC : e ≠ C := fun z => by rw [z, hoC] at he; cases he; rw [hdC] at hd; cases hd
  have TC : T ≠ C := fun z => by rw [z, hoC] at hT; cases hT; rw [hdC] at hdT; cases hdT
  have nn : ∀ b, base.get? b = none → (PySem.W.hideAll base [C]).get? b = none := fun b hb => by
    cases q : (PySem.W.hideAll base [C]).get? b with
    | none => rfl
    | some o =>
      have z := PySem.W.of_hideAll _ q
      rw [hb] at z; cases z
  refine ⟨fun b o hb => ?_, nn e k2, funFrames_hide k3 hn keep, oe, vs, T, oT, ts, keep e oe eC he, hz, hd, h1, nn T hnT, hTe, keep T oT TC hT, hdT, h3⟩
  have hbC : b ≠ C := fun z => by
    rw [z, PySem.W.hideAll_none [C] (List.mem_singleton.mpr rfl)] at hb; cases hb
  exact keep b o hbC (k1 b o (PySem.W.of_hideAll _ hb))
end
/-! ### the comprehension -/
def LcEnd (M : Model) (A : Around) (E : Value → Shared → Prop) (Q : Value → Shared → Prop) (acc : Value) (C : Addr) (F : Option Addr) (r : Result) (s' : Shared) : Prop := match r with
  | .ok _ => ∃ m, s'.heap.Ns C m ∧ ∀ h', Heap.SameBut C s'.heap h' → Q acc { s' with heap := h' }
  | .error x => ∃ m, s'.heap.Ns C m ∧ ∀ h', Heap.SameBut C s'.heap h' → ∀ cenv : Env, cenv.locals = C → cenv.frame = F → wpAny M A (passOn "comprehension.variables-let-go" x cenv : Sem Value) (fun _ _ => False) E { s' with heap := h' }
theorem comprehension_raises {M : Model} {A : Around} {E : Value → Shared → Prop} {s : Shared} {env : Env} {e : Expr} {scope : Scope} {pos : Pos} {newAcc first : Sem Value} {g : Comprehension} {gs : List Comprehension} {cl : List (Str × Addr)} {Q : Value → Shared → Prop}
    (hcl : clausesOf e = g :: gs) (hs : ∀ x, foldedSetIterable g.iter env x = pure x) (hclos : closureFor scope env = pure cl) (hkind : scope.kind = .function) (hnames : ∀ x ∈ scope.names, x.2 = .local → scope.names.lookup x.1 = some .local)
    (h : wpAny M A first (fun x s1 => wpAny M A (pyIter x) (fun it s2 => wpAny M A newAcc (fun acc s3 => wpAny M A (newFunctionEnv scope env.globals cl [] env.qual none .none (some env)) (fun cenv s4 =>
        codeAny M A (.compStart e 0 it acc { cenv with scope := relabel scope env }) (LcEnd M A E Q acc cenv.locals cenv.frame) s4) E s3) E s2) E s1) E s) :
    wpAny M A (comprehension e scope env pos newAcc false first) Q E s := by
  unfold comprehension
  rw [hclos, hcl]
  refine wpAny_bind (wpAny_mono h (fun x s1 h1 => ?_) fun _ _ z => z)
  refine wpAny_bind (wpAny_standAt (wpAny_bind (wpAny_of_eq (hs x) (wpAny_bind (wpAny_holding (wpAny_mono h1 (fun it s2 h2 => ?_) fun _ _ z => z))))))
  refine wpAny_standIf (wpAny_bind (wpAny_mono h2 (fun acc s3 h3 => ?_) fun _ _ z => z))
  refine wpAny_bind (wpAny_pure (wpAny_bind (wpAny_mono h3 (fun cenv s4 h4 => ?_) fun _ _ z => z)))
  dsimp only
  have hv : ∀ x ∈ (scope.names.filter fun x => (x.2 == .local || x.2 == .cell) && x.1 != (".0" : Str)).reverse, x.2 = .local → Env.kindOf { cenv with scope := relabel scope env } x.1 = some .local :=
    fun x hx hl => lookup_relabel_local (hnames x (List.mem_filter.mp (List.mem_reverse.mp hx)).1 hl)
  refine wpAny_holding (wpAny_bind (wpAny_attempt (wpAny_holding (wpAny_run (codeAny_mono h4 fun r s' hr => ?_)))))
  cases r with
  | ok f =>
    obtain ⟨m, hn, hr⟩ := hr
    exact wpAny_bind (wpAny_holding (wpAny_comp_letGo (cenv := { cenv with scope := relabel scope env }) hkind _ s' m hv hn fun h' m' _ hs' => wpAny_pure (hr h' hs')))
  | error x =>
    obtain ⟨m, hn, hr⟩ := hr
    exact wpAny_bind (wpAny_holding (wpAny_comp_letGo (cenv := { cenv with scope := relabel scope env }) hkind _ s' m hv hn fun h' m' _ hs' => wpAny_mono (hr h' hs' { cenv with scope := relabel scope env } rfl rfl) (fun _ _ f => f.elim) fun _ _ y => y))
section
variable {X : Cx} {W : WX}
def tLcR (W : WX) (wi : TI) (g : TG) (te : WX → TE) (vs : List Nat) : TE := fun σ H Q => wi σ H fun J H1 => ∀ D, H1 D = none → ∃ I : Nat → Nat → Hp → Prop, (∃ m, I 0 m (upd H1 D (.lst []))) ∧ ∀ i m H, I i m H →
  (J.stop i H ∧ Q (.ref D) H) ∨ (J.go i H ∧ ∃ Nx : Hp → Prop, (∀ H', Nx H' → ∃ m', m' < m ∧ I (i + 1) m' H') ∧ ∀ x H', J.yld i H x H' → g x (L2.wipe σ vs) H' fun σ2 H2 => L2.wipe σ2 vs = L2.wipe σ vs ∧
    te (fun cls d _ H' => W cls d σ H') σ2 H2 fun y H4 => ∃ acc, H4 D = some (.lst acc) ∧ acc.length < sizeLine ∧ Nx (upd H4 D (.lst (acc ++ [y]))))
/-- an exception of the block's is one of the def's -/
theorem block_raises {pins P pins' : List (Addr × Obj)} {σ σ' : L2.St} {H3 H' : Hp} {s3 sI s' : Shared} {fp : List Addr} {ce : Env} {scope : Scope} {C a : Addr} {B : Heap} {cls : Value} {d : Option Addr} {xe : Value → Shared → Prop} {Q : Value → Shared → Prop} {acc : Value}
    (hs : X.stack = X.env :: X.outer) (hf : X.env.frame = some X.env.locals) (tk : Takes X W) (I3 : Inv X pins σ H3 s3) (cL : ce.locals = C) (cF : ce.frame = X.env.frame) (sC : s3.heap.objs.size ≤ C)
    (hfp : ∀ b ∈ fp, (b ∈ X.ex ∨ X.s_0.heap.objs.size ≤ b) ∧ b ≠ X.env.locals ∧ (∀ x c, X.env.cells.lookup x = some c → c ≠ b) ∧ ∀ p ∈ X.pn ++ pins, p.1 ≠ b)
    (J : Inv ((X.blk s3 H3 scope ce fp).tr P xe) pins' σ' H' sI) (nb : ∀ b o, sI.heap.get? b = some o → b ∉ frs X.stack → B.get? b = some o) (up : sI.heap.UpToSlots s'.heap) (sky : Sky B X.stack a (Zc cls d) C s'.heap) (na : H' a = none) (os : s'.os = sI.os) (ag : AllBare s'.gens) (w : W cls d σ H') :
    notedBy (model X.prog X.w) X.A ce (fun e s' => LcEnd (model X.prog X.w) X.A X.xe Q acc C X.env.frame (.error e) s') (.ref a) s' := by
  have Io : Inv X pins σ H' sI := I3.call' (ch := fp) J.os J.base J.hok J.bare hfp
  have nC : H' C = none := by
    have z : H' ce.locals = none := J.free
    rw [cL] at z
    exact z
  have fC : FpOk X pins H' C := I3.fpOk sC nC
  have nst : ∀ b ∈ frs X.stack, b ≠ C := fun b hb z => by
    rcases List.mem_cons.mp (I3.stkSub b hb) with y | y
    · exact fC.2.1 (z.symm.trans y)
    · exact fC.2.2.1 (z ▸ y)
  have hfr : X.A.frames = some (X.env :: X.outer) := by rw [I3.ok.frames, hs]
  have CL : C ≠ X.env.locals := fC.2.1
  obtain ⟨m, hn, _⟩ := J.loc
  have hn : sI.heap.Ns C m := by
    have z : sI.heap.Ns ce.locals m := hn
    rw [cL] at z
    exact z
  show wpAny (model X.prog X.w) X.A (noteFrame (.ref a) ce) _ _ s'
  rw [noteFrame_frame cF]
  have fin : ∀ h1, HandSPX.HeldZ B (X.env :: X.outer) a (Zc cls d) X.env.locals h1 → s'.heap.UpToSlots h1 → LcEnd (model X.prog X.w) X.A X.xe Q acc C X.env.frame (.error (.ref a)) { s' with heap := h1 } := fun h1 hh up1 => by
    have hn1 : h1.Ns C m := (up.trans up1).ns hn
    refine ⟨m, hn1, fun h2 sb cenv _ hcf => ?_⟩
    have hh2 := held_letGo hh hn1 (by rw [← hs]; exact nst) sb
    obtain ⟨k1, k2, k3, oe, vs, T, oT, ts, he, hz, hd, h1', hnT, hTe, hT, hdT, h3⟩ := id hh2
    unfold PySem.passOn
    refine wpAny_bind (wpAny_field he hd h1' ?_)
    rw [if_neg (show ¬ ((Value.ref T == Value.none) = true) from by simp)]
    have go : wpAny (model X.prog X.w) X.A (setFlight (.ref a) cenv.frame) (fun _ s4 => wpAny (model X.prog X.w) X.A (throw (.ref a) : Sem Value) (fun _ _ => False) X.xe s4) X.xe { s' with heap := h2 } := by
      rw [hcf, hf]
      refine HandSPX.setFlight_onZ hh2 fun h4 hh4 up4 => wpAny_throw (tk _ _ ?_)
      have ex : ∀ b o, (PySem.W.hideAll sI.heap [C]).get? b = some o → b ≠ C ∧ sI.heap.get? b = some o := fun b o q => by
        refine ⟨fun z => ?_, PySem.W.of_hideAll _ q⟩
        rw [z, PySem.W.hideAll_none [C] (List.mem_singleton.mpr rfl)] at q
        cases q
      refine ⟨a, PySem.W.hideAll B [C], { sI with heap := PySem.W.hideAll sI.heap [C] }, pins, σ, H', cls, d, rfl,
        Io.turned (t' := sI.toks) (it := C) (fun b o hb q => PySem.W.hideAll_get _ q (by simpa using hb)) nC CL fC.2.2.2.1 fC.2.2.2.2.1 fC.2.2.2.2.2, fun b o q hb => ?_, fun b o q hnf => ?_, .inr (.inr (by rw [hs]; exact hh4)), na, os, ag, w⟩
      · obtain ⟨z1, z2⟩ := ex b o q
        exact PySem.W.hideAll_get _ (nb b o z2 hb) (by simpa using z1)
      · obtain ⟨z1, z2⟩ := ex b o q
        obtain ⟨sl, y⟩ := (up.trans up1) b o z2 hnf
        obtain ⟨sl', y'⟩ := up4 b { o with slots := sl } ((sb.2 b z1).trans y) hnf
        exact ⟨sl', y'⟩
    first
      | exact wpAny_bind (wpAny_pure (wpAny_bind go))
      | exact wpAny_bind go
  rw [hs] at sky
  rcases sky with ⟨hB, hn', hl, oe, vs, he, hz, hd, h1⟩ | fl | hd
  · exact HandSPX.look_newZ Zc.steady hfr hl hf he hB hn' hd h1 hz fin
  · exact HandSPX.looks_onZ Zc.steady hfr hf fl fin
  · exact looks_otherZ Zc.steady hfr hf hd CL fin
end
end DL

/-! [elt for tg in iter] whose element may raise -/
namespace DL
open PySem PySem.Spec PyProof.Rows L2
section
variable {X : Cx} {W : WX}
theorem pe_lcR {elt tg iter : Expr} {scope : Scope} {own : List (Str × Nat)} {pos : Pos} {wi : TI} {g : TG} {te : WX → TE} (hst : X.stack = X.env :: X.outer) (hf : X.env.frame = some X.env.locals) (tk : Takes X W) (hc : X.calm = true) (hN : X.N.Nodup) (hi : PI X tg iter wi) (ok : BlkOk X.N X.env.scope scope own)
    (hg : ∀ (s : Shared) (H : Hp) (C : Addr) (cl : List (Str × Addr)) (fp : List Addr), PG (X.blk s H scope (compEnvC scope cl C X.env) fp) tg g)
    (he : ∀ (s : Shared) (H : Hp) (C : Addr) (cl : List (Str × Addr)) (fp : List Addr) (pn : List (Addr × Obj)) (xe : Value → Shared → Prop) (WB : WX), Takes ((X.blk s H scope (compEnvC scope cl C X.env) fp).tr pn xe) WB → PE ((X.blk s H scope (compEnvC scope cl C X.env) fp).tr pn xe) elt (te WB))
    (hs : ∀ x, foldedSetIterable iter X.env x = pure x := by intro _; rfl) : PE X (.ListComp elt [⟨tg, iter, [], 0⟩] scope pos) (tLcR W wi g te (own.map (·.2))) := by
  refine ⟨fun pins s σ H Q I h => ?_⟩
  rw [eval_ListComp]
  have hfree : ∀ y ∈ scope.names, y.2 = .free → ∃ c, X.env.cells.lookup y.1 = some c := fun y hy e => by
    rcases ok.free y hy e with k | k
    · exact I.ok.has _ (.inl k)
    · exact I.ok.has _ (.inr k)
  refine comprehension_raises rfl hs (closure_ok hfree) ok.kind (fun y hy e => by rw [ok.uniq y hy, e]) (thn (hi.run pins s σ H _ I h) fun xv s1 hx => thn hx fun itv s2 h2 => ?_)
  obtain ⟨it, fp, tn, J, H2, e, I2, T, st2, f2, q⟩ := h2
  subst e
  refine wpAny_newObj_type (newEnv_comp ?_) (by show 0 ≤ sizeLine; decide)
  generalize hD : s2.heap.objs.size = D
  have hDn : H2 D = none := I2.hok.fresh (Nat.le_of_eq hD)
  obtain ⟨V, ⟨m0, w0⟩, turn⟩ := q D hDn
  generalize hs3 : ({ s2 with heap := s2.heap.push { cls := .type "list", data := .seq ([] : List Value).toArray } } : Shared) = s3
  have h3 : s3.heap = s2.heap.push { cls := .type "list", data := .seq ([] : List Value).toArray } := by rw [← hs3]
  have I3 : Inv X pins σ (upd H2 D (.lst [])) s3 := by
    rw [← hs3]
    refine I2.laid (t' := s2.toks) (fun b o e => Heap.get?_push_of_some _ e) (Nat.le_of_eq hD) ⟨Nat.zero_le _, [], 0, .nil, ?_⟩
    rw [← hD]
    exact Heap.get?_push_size _ rfl
  have f3 : ∀ b ∈ fp, FpOk X pins (upd H2 D (.lst [])) b ∧ b < s3.heap.objs.size := fun b hb => by
    obtain ⟨o, e, _⟩ := T.obj _ _ st2 b hb
    have hlt : b < s2.heap.objs.size := Heap.lt_size e
    refine ⟨⟨?_, (f2 b hb).2⟩, by rw [h3, Heap.size_push]; exact Nat.lt_succ_of_lt hlt⟩
    rw [upd_ne (by rw [← hD]; exact Nat.ne_of_lt hlt)]
    exact (f2 b hb).1
  have st3 : tn 0 s3.heap := T.keep _ _ _ st2 fun b _ o e => by rw [h3]; exact Heap.get?_push_of_some _ e
  have I4 := block_start I3 ok hN f3
  have pg := hg s3 (upd H2 D (.lst [])) s3.heap.objs.size (cellsFrom (s3.heap.objs.size + 1) scope.names (cloFrom X.env.cells scope.names [])) fp
  have pe := he s3 (upd H2 D (.lst [])) s3.heap.objs.size (cellsFrom (s3.heap.objs.size + 1) scope.names (cloFrom X.env.cells scope.names [])) fp
  have nfp : ∀ b ∈ fp, (upd H2 D (.lst [])) b = none := fun b hb => (f3 b hb).1.1
  have sC : s3.heap.objs.size ≤ s3.heap.objs.size := Nat.le_refl _
  show codeAny _ _ (.compStart (.ListComp elt [⟨tg, iter, [], 0⟩] scope pos) 0 (.ref it) (.ref D) (compEnvC scope (cellsFrom (s3.heap.objs.size + 1) scope.names (cloFrom X.env.cells scope.names [])) s3.heap.objs.size X.env)) (LcEnd (model X.prog X.w) X.A X.xe (EP X pins σ Q) (.ref D) s3.heap.objs.size X.env.frame) { s3 with heap := pushCells (s3.heap.push { cls := .type "dict", data := .dict #[] }) scope.names }
  have cF : (compEnvC scope (cellsFrom (s3.heap.objs.size + 1) scope.names (cloFrom X.env.cells scope.names [])) s3.heap.objs.size X.env).frame = X.env.frame := rfl
  have cL : (compEnvC scope (cellsFrom (s3.heap.objs.size + 1) scope.names (cloFrom X.env.cells scope.names [])) s3.heap.objs.size X.env).locals = s3.heap.objs.size := rfl
  generalize compEnvC scope (cellsFrom (s3.heap.objs.size + 1) scope.names (cloFrom X.env.cells scope.names [])) s3.heap.objs.size X.env = ce at I4 pg pe cF cL ⊢
  generalize hH3 : upd H2 D (.lst []) = H3 at I3 I4 pg pe w0 nfp f3
  generalize hs4 : ({ s3 with heap := pushCells (s3.heap.push { cls := .type "dict", data := .dict #[] }) scope.names } : Shared) = s4 at I4 ⊢
  generalize hC : s3.heap.objs.size = C at sC cL ⊢
  have hfp : ∀ b ∈ fp, (b ∈ X.ex ∨ X.s_0.heap.objs.size ≤ b) ∧ b ≠ X.env.locals ∧ (∀ x c, X.env.cells.lookup x = some c → c ≠ b) ∧ ∀ p ∈ X.pn ++ pins, p.1 ≠ b := fun b hb =>
    ⟨(f3 b hb).1.2.2.2.1, (f3 b hb).1.2.1, (f3 b hb).1.2.2.2.2.1, (f3 b hb).1.2.2.2.2.2⟩
  have st4 : tn 0 s4.heap := T.keep _ _ _ st3 fun b _ o e => by rw [← hs4]; exact pushCells_keeps _ _ _ _ (Heap.get?_push_of_some _ e)
  have stat : ∀ {σ' : L2.St} {H' : Hp} {s' : Shared}, Inv (X.blk s3 H3 scope ce fp) [] σ' H' s' → (∀ b ∈ fp, H' b = none) → ∀ b ∈ fp, FpOk (X.blk s3 H3 scope ce fp) [] H' b := fun {σ' H' s'} I' hn b hb =>
    ⟨hn b hb, (I'.ok.exf b hb).1, I'.ok.exfs b hb, .inl hb, fun x c e => (I'.ok.exf b hb).2 x c e, fun p hp => absurd (show p ∈ ([] : List (Addr × Obj)) ++ [] from hp) (by simp)⟩
  have loop : codeAny (model X.prog X.w) X.A (.compLoop (.ListComp elt [⟨tg, iter, [], 0⟩] scope pos) 0 (.ref it) (.ref D) ce) (LcEnd (model X.prog X.w) X.A X.xe (EP X pins σ Q) (.ref D) C X.env.frame) s4 := by
    refine compLoop_any (fun n s' => ∃ i H', Inv (X.blk s3 H3 scope ce fp) [] (L2.wipe σ (own.map (·.2))) H' s' ∧ tn i s'.heap ∧ (∀ b ∈ fp, H' b = none) ∧ V i n H') ?_ m0 ⟨0, H3, I4, st4, nfp, w0⟩
    rintro n s5 ⟨i, H5, I5, st5, n5, w5⟩
    rcases turn i n H5 w5 with ⟨stop, qq⟩ | ⟨go, Nx, hNx, step⟩
    · refine thnF (T.done (X.blk s3 H3 scope ce fp) rfl rfl rfl hc i [] s5 _ H5 (fun _ _ => False) I5 (stat I5 n5) st5 stop) fun r s6 ⟨hr, I6⟩ => ?_
      subst hr
      have I7 : Inv X pins σ H5 s6 := I3.call' (ch := fp) I6.os I6.base I6.hok I6.bare hfp
      have nC : H5 C = none := by
        have z : H5 ce.locals = none := I6.free
        rw [cL] at z
        exact z
      obtain ⟨m, hn, _⟩ := I6.loc
      have hn : s6.heap.Ns ce.locals m := hn
      rw [cL] at hn
      obtain ⟨f0, f1, _, fa, fb, fc⟩ := I3.fpOk (b := C) (H' := H5) (Nat.le_of_eq hC) nC
      exact ⟨m, hn, fun h'' sb => ⟨.ref D, H5, I7.turned (t' := s6.toks) (fun b o hb e => (sb.2 b hb).trans e) f0 f1 fa fb fc, rfl, qq⟩⟩
    · refine thnF (T.item (X.blk s3 H3 scope ce fp) rfl rfl rfl hc i [] s5 _ H5 (fun _ _ => False) I5 (stat I5 n5) st5 go) fun r s6 ⟨u, hr, h6⟩ => ?_
      subst hr
      refine thnF h6 fun _ s7 ⟨x, H7, I7, r7, y7, st7, n7⟩ => ?_
      have I7' := I7.pinned (stat I7 n7) (T.obj _ _ st7)
      refine thnF (pg.run _ s7 _ H7 x u _ I7' r7 (step x H7 y7)) fun _ s8 ⟨σ8, H8, I8, hw8, q8⟩ => ?_
      refine wpAny_tests_nil ?_
      rw [if_pos rfl]
      have fin : ∀ {s' : Shared} {H' : Hp}, Inv (X.blk s3 H3 scope ce fp) ([] ++ pinsAt fp s7.heap) σ8 H' s' → Nx H' → ∃ m, m < n ∧ ∃ i H', Inv (X.blk s3 H3 scope ce fp) [] (L2.wipe σ (own.map (·.2))) H' s' ∧ tn i s'.heap ∧ (∀ b ∈ fp, H' b = none) ∧ V i m H' := fun {s' H'} I' nx => by
        obtain ⟨m', hm, w'⟩ := hNx H' nx
        have pin' : ∀ b ∈ fp, ∀ o, s7.heap.get? b = some o → s'.heap.get? b = some o ∧ H' b = none := fun b hb o e =>
          let z := I'.pin (b, o) (List.mem_append_right _ (List.mem_append_right _ (mem_pinsAt hb e)))
          ⟨z.1, z.2.1⟩
        refine ⟨m', hm, i + 1, H', (I'.unpinned (pins := [])).weak (by rw [← hw8, wipe_length]) (fun j v e => ?_), T.keep _ _ _ st7 fun b hb o e => (pin' b hb o e).1, fun b hb => ?_, w'⟩
        · rw [← hw8] at e
          exact (wipe_some e).1
        · obtain ⟨o, e, _⟩ := T.obj _ _ st7 b hb
          exact (pin' b hb o e).2
      refine wpAny_mono ((pe (([] : List (Addr × Obj)) ++ ([] ++ pinsAt fp s7.heap)) _ (fun cls d _ H' => W cls d σ H') (fun u s' xx => ?_)).run [] s8 σ8 H8 _ (I8.toTry _) q8) (fun z s10 hz => ?_) (fun _ _ z => z)
      · obtain ⟨a, B, sI, pins', σ', H', cls, d, rfl, J', nb, up, sky, na, os, ag, w'⟩ := xx
        have sky : Sky B X.stack a (Zc cls d) C s'.heap := cL ▸ sky
        exact block_raises hst hf tk I3 cL cF (Nat.le_of_eq hC) hfp J' nb up sky na os ag w'
      · obtain ⟨yv, H10, I10, r10, acc, hD10, hz10, nx⟩ := hz
        have I11 : Inv (X.blk s3 H3 scope ce fp) ([] ++ pinsAt fp s7.heap) σ8 H10 s10 := I10.ofTry I5.ok
        exact app_ok (X := X.blk s3 H3 scope ce fp) I11 hD10 hz10 r10 fun s11 I11 => fin I11 nx
  exact codeAny_compStart_list loop (T.self X.A 0 _ _ _ st4 loop)
end
end DL

namespace DL
open PySem PySem.Spec L2
section
variable {c : Cf} {X : Cx} {W : WX} {fs : M (List D)} {pos : Pos}
/-- as mLc; an element may raise -/
def mLcR (vs : List Nat) (fi : M (List D)) (t : Tg) (elt : M D) : M (List D) := fun s => (fi s).bind fun ds s1 => if noOwn vs s1 = true then match lcG vs t mYes elt ds (wipeS s1 vs) with
    | .ok xs s2 => if xs.length ≤ sizeLine then .ok xs (putS s1 s2 vs) else .bad
    | .err x s2 => if ds.length ≤ sizeLine then .err x (putS s1 (wipeS s2 vs) vs) else .bad
    | .bad => .bad
  else .bad
theorem lcG_cons {vs : List Nat} {t : Tg} {elt : M D} {d : D} {r : List D} {s : Sts} : lcG vs t mYes elt (d :: r) s = match t d s with
    | none => .bad
    | some s1 => (elt s1).bind fun x s3 => (lcG vs t mYes elt r (wipeS s3 vs)).bind fun xs s4 => .ok (x :: xs) s4 := by
  rw [lcG]
  cases t d s with
  | none => rfl
  | some s1 => rfl
def lcSz (ds : List D) (n : Nat) : Rs (List D) → Prop
  | .ok xs _ => xs.length ≤ n
  | .err _ _ => ds.length ≤ n
  | .bad => True
def lcRst (vs : List Nat) (t : Tg) (elt : M D) (ds : List D) (R : Rs (List D)) (i : Nat) (s' : Sts) (accd : List D) : Prop := accd.length = i ∧ match R with
  | .ok xs sf => ∃ rest, lcG vs t mYes elt (ds.drop i) s' = .ok rest sf ∧ accd ++ rest = xs
  | .err x sf => lcG vs t mYes elt (ds.drop i) s' = .err x sf
  | .bad => False
theorem lcRst_start {vs : List Nat} {t : Tg} {elt : M D} {ds : List D} {R : Rs (List D)} {s : Sts} (h : lcG vs t mYes elt ds s = R) (good : R ≠ .bad) : lcRst vs t elt ds R 0 s [] := by
  refine ⟨rfl, ?_⟩
  cases R with
  | ok xs sf => exact ⟨xs, by rw [List.drop_zero]; exact h, rfl⟩
  | err x sf => show lcG vs t mYes elt (ds.drop 0) s = _; rw [List.drop_zero]; exact h
  | bad => exact good rfl
theorem lcRst_turn {vs : List Nat} {t : Tg} {elt : M D} {ds : List D} {R : Rs (List D)} {i : Nat} {s' : Sts} {accd : List D} {d : D} (h : lcRst vs t elt ds R i s' accd) (e : ds.drop i = d :: ds.drop (i + 1)) :
    ∃ s2, t d s' = some s2 ∧ ((∃ x s3, elt s2 = .err x s3 ∧ R = .err x s3) ∨ ∃ xd s4, elt s2 = .ok xd s4 ∧ lcRst vs t elt ds R (i + 1) (wipeS s4 vs) (accd ++ [xd])) := by
  obtain ⟨hl, h⟩ := h
  have hl2 : ∀ xd : D, (accd ++ [xd]).length = i + 1 := fun xd => by rw [List.length_append, hl]; rfl
  cases R with
  | bad => exact h.elim
  | ok xs sf =>
    obtain ⟨rest, q1, q2⟩ := h
    rw [e, lcG_cons] at q1
    cases z : t d s' with
    | none => rw [z] at q1; cases q1
    | some s2 =>
      rw [z] at q1
      have q1 : ((elt s2).bind fun x s3 => (lcG vs t mYes elt (ds.drop (i + 1)) (wipeS s3 vs)).bind fun xs s4 => .ok (x :: xs) s4) = .ok rest sf := q1
      refine ⟨s2, rfl, ?_⟩
      cases ze : elt s2 with
      | bad => rw [ze] at q1; cases q1
      | err x s3 => rw [ze] at q1; cases q1
      | ok xd s4 =>
        rw [ze] at q1
        have q1 : ((lcG vs t mYes elt (ds.drop (i + 1)) (wipeS s4 vs)).bind fun xs s4 => .ok (xd :: xs) s4) = .ok rest sf := q1
        refine .inr ⟨xd, s4, rfl, hl2 xd, ?_⟩
        cases zr : lcG vs t mYes elt (ds.drop (i + 1)) (wipeS s4 vs) with
        | err _ _ => rw [zr] at q1; cases q1
        | bad => rw [zr] at q1; cases q1
        | ok rs s5 =>
          rw [zr] at q1
          have q1 : Rs.ok (xd :: rs) s5 = .ok rest sf := q1
          cases q1
          exact ⟨rs, rfl, by rw [← q2, List.append_assoc]; rfl⟩
  | err y sf =>
    have h : lcG vs t mYes elt (ds.drop i) s' = .err y sf := h
    rw [e, lcG_cons] at h
    cases z : t d s' with
    | none => rw [z] at h; cases h
    | some s2 =>
      rw [z] at h
      have h : ((elt s2).bind fun x s3 => (lcG vs t mYes elt (ds.drop (i + 1)) (wipeS s3 vs)).bind fun xs s4 => .ok (x :: xs) s4) = .err y sf := h
      refine ⟨s2, rfl, ?_⟩
      cases ze : elt s2 with
      | bad => rw [ze] at h; cases h
      | err x s3 =>
        rw [ze] at h
        have h : (Rs.err x s3 : Rs (List D)) = .err y sf := h
        cases h
        exact .inl ⟨_, _, rfl, rfl⟩
      | ok xd s4 =>
        rw [ze] at h
        have h : ((lcG vs t mYes elt (ds.drop (i + 1)) (wipeS s4 vs)).bind fun xs s4 => .ok (xd :: xs) s4) = .err y sf := h
        refine .inr ⟨xd, s4, rfl, hl2 xd, ?_⟩
        show lcG vs t mYes elt (ds.drop (i + 1)) (wipeS s4 vs) = _
        cases zr : lcG vs t mYes elt (ds.drop (i + 1)) (wipeS s4 vs) with
        | ok _ _ => rw [zr] at h; cases h
        | bad => rw [zr] at h; cases h
        | err y' s5 =>
          rw [zr] at h
          exact h
theorem lcRst_end {vs : List Nat} {t : Tg} {elt : M D} {ds : List D} {R : Rs (List D)} {s' : Sts} {accd : List D} (h : lcRst vs t elt ds R ds.length s' accd) : R = .ok accd s' := by
  obtain ⟨_, h⟩ := h
  cases R with
  | bad => exact h.elim
  | err x sf =>
    have h : lcG vs t mYes elt (ds.drop ds.length) s' = .err x sf := h
    rw [List.drop_length] at h
    cases h
  | ok xs sf =>
    obtain ⟨rest, q1, q2⟩ := h
    rw [List.drop_length] at q1
    have q1 : Rs.ok [] s' = .ok rest sf := q1
    cases q1
    rw [← q2, List.append_nil]
theorem lcRst_short {vs : List Nat} {t : Tg} {elt : M D} {ds : List D} {R : Rs (List D)} {i : Nat} {s' : Sts} {accd : List D} {n : Nat} (h : lcRst vs t elt ds R i s' accd) (hlt : i < ds.length) (hz : lcSz ds n R) : accd.length < n := by
  have e : ∃ d, ds.drop i = d :: ds.drop (i + 1) := ⟨ds[i], List.drop_eq_getElem_cons hlt⟩
  obtain ⟨d, e⟩ := e
  obtain ⟨s2, _, h2⟩ := lcRst_turn h e
  rcases h2 with ⟨x, s3, _, rfl⟩ | ⟨xd, s4, _, hl, h2⟩
  · have hz : ds.length ≤ n := hz
    rw [h.1]
    omega
  · cases R with
    | bad => exact h2.elim
    | err _ _ =>
      have hz : ds.length ≤ n := hz
      rw [h.1]
      omega
    | ok xs sf =>
      obtain ⟨rest, _, q⟩ := h2
      have hz : xs.length ≤ n := hz
      rw [← q] at hz
      simp at hz
      omega
theorem sem_lcR {wi : TI} {vs : List Nat} {t : Tg} {elt : M D} (hv : ∀ v ∈ vs, c.np ≤ v) (si : SemI c W wi fs) : SemF c W (tLcR W wi (tgB c vs t) (fun WB => teB c WB elt) vs) (mLcR vs fs t elt) := by
  intro O A σ H s r Q w
  refine si O A σ H s r _ (Wp.mono (Wp.bind w) ?_)
  intro ds s1 H1 _ f1 r1 w1 J wk p hp
  by_cases no : noOwn vs s1 = true
  · rw [if_pos no] at w1
    have pO := r1.fresh hp
    have pA : p ∉ A := fun z => pO (r1.sub p z)
    have h0 : ∀ u, c.H0 p = some u → ¬ NT u := fun u e n => by
      by_cases ha : p ∈ c.A0
      · obtain ⟨q, hq, e2⟩ := List.mem_map.mp ha
        obtain ⟨_, h2, es, h3⟩ := r1.pn q hq
        obtain ⟨l', vs', e3, _, e4, _⟩ := r1.own h3
        rw [h2] at e3
        have e3 := Option.some.inj (Option.some.inj e3)
        injection e3 with e3
        rw [← e3, e2, hp] at e4
        cases e4
      · have := r1.kp p u e n ha
        rw [hp] at this; cases this
    generalize hR : lcG vs t mYes elt ds (wipeS s1 vs) = R at w1
    have good : R ≠ .bad := fun z => by rw [z] at w1; exact w1.elim
    have hz : lcSz ds sizeLine R := by
      cases R with
      | bad => trivial
      | ok xs sf =>
        by_cases h : xs.length ≤ sizeLine
        · exact h
        · have w1 : Wp c W O A σ H1 (if xs.length ≤ sizeLine then .ok xs (putS s1 sf vs) else .bad) (fun ds _ H' => ∀ p vs, H' p = none → DpAll c.K (cut O H') vs ds → Q (.ref p) (upd H' p (.lst vs))) := w1
          rw [if_neg h] at w1
          exact w1.elim
      | err x sf =>
        by_cases h : ds.length ≤ sizeLine
        · exact h
        · have w1 : Wp c W O A σ H1 (if ds.length ≤ sizeLine then .err x (putS s1 (wipeS sf vs) vs) else .bad) (fun ds _ H' => ∀ p vs, H' p = none → DpAll c.K (cut O H') vs ds → Q (.ref p) (upd H' p (.lst vs))) := w1
          rw [if_neg h] at w1
          exact w1.elim
    have back : ∀ (H' : Hp) (acc : List V), H' p = some (.lst acc) → upd (del p H') p (.lst acc) = H' := fun H' acc hacc => by
      funext x
      by_cases hx2 : x = p
      · rw [hx2, upd_same, hacc]
      · rw [upd_ne hx2, del_ne hx2]
    refine ⟨fun i m H' => m = ds.length - i ∧ i ≤ ds.length ∧ ∃ (s' : Sts) (acc : List V) (accd : List D), Stp A H1 H' ∧ H' p = some (.lst acc) ∧ Rel c (p :: O) A (L2.wipe σ vs) H' s' ∧ DpAll c.K (cut (p :: O) H') acc accd ∧ lcRst vs t elt ds R i s' accd,
      ⟨ds.length, by simp, Nat.zero_le _, wipeS s1 vs, [], [], fun a o _ e _ => by rw [upd_ne (ne_of_none e hp)]; exact e, upd_same, (r1.wipe hv).prot hp nt_lst, .nil, lcRst_start hR good⟩, ?_⟩
    rintro i m H' ⟨rfl, hi, s', acc, accd, st, hacc, r', qa, rs'⟩
    have fw : Fwd O H1 (p :: O) H' := fun a o e n => by
      obtain ⟨h1, h2⟩ := cut_some e
      rw [cut_out (by simp [h1, ne_of_none h2 hp])]
      exact st a o (fun z => h1 (r1.sub a z)) h2 n
    by_cases hlt : i < ds.length
    · refine .inr ?_
      obtain ⟨hgo, hy⟩ := wk.go i (p :: O) H' hlt fw
      refine ⟨hgo, fun H2 => i + 1 ≤ ds.length ∧ ∃ (s' : Sts) (acc : List V) (accd : List D), Stp A H1 H2 ∧ H2 p = some (.lst acc) ∧ Rel c (p :: O) A (L2.wipe σ vs) H2 s' ∧ DpAll c.K (cut (p :: O) H2) acc accd ∧ lcRst vs t elt ds R (i + 1) s' accd, fun H2 h => ⟨ds.length - (i + 1), by omega, rfl, h⟩, fun x H2 y => ?_⟩
      obtain ⟨gr, d, hd, qd⟩ := hy x H2 y
      have e : ds.drop i = d :: ds.drop (i + 1) := by
        obtain ⟨h1, h2⟩ := List.getElem?_eq_some_iff.mp hd
        rw [← h2]
        exact List.drop_eq_getElem_cons hlt
      have hacc2 : H2 p = some (.lst acc) := gr.sub p _ hacc nt_lst
      have shrt := lcRst_short rs' hlt hz
      obtain ⟨s2, z, turn⟩ := lcRst_turn rs' e
      refine ⟨p :: O, A, s', d, s2, r'.grow gr, qd, z, fun σ2 b2 r2 => ⟨wipe_but b2, ?_⟩⟩
      have wb : L2.wipe σ2 vs = L2.wipe σ vs := wipe_but b2
      refine ⟨p :: O, A, s2, r2, ?_⟩
      have st12 : Stp A H1 H2 := st.trans (gr.stp A)
      rcases turn with ⟨x, s3, ze, eR⟩ | ⟨xd, s4, ze, rs2⟩
      · rw [ze]
        subst eR
        intro H3 st3 r3
        have hacc3 : H3 p = some (.lst acc) := st3 p _ pA hacc2 nt_lst
        have r3' : Rel c (p :: O) A (L2.wipe σ vs) H3 (wipeS s3 vs) := by
          have := r3.wipe hv
          rw [wb] at this
          exact this
        have rr := r1.unlc hp (st12.trans st3) no r3' hv ⟨acc, hacc3⟩
        have rg := rr.grow (Grow.new (c := c) (o := .lst acc) del_same)
        rw [back H3 acc hacc3] at rg
        have w1 : Wp c W O A σ H1 (if ds.length ≤ sizeLine then .err x (putS s1 (wipeS s3 vs) vs) else .bad) (fun ds _ H' => ∀ p vs, H' p = none → DpAll c.K (cut O H') vs ds → Q (.ref p) (upd H' p (.lst vs))) := w1
        rw [if_pos (show ds.length ≤ sizeLine from hz)] at w1
        exact w1 H3 (st12.trans st3) rg
      · rw [ze]
        intro H4 st4 r4 v qv
        have cuts : Sub (cut (p :: O) H') (cut (p :: O) H4) := Sub.trans (gr.cut _) (st4.fwd r2.sub)
        have hacc4 : H4 p = some (.lst acc) := st4 p _ pA hacc2 nt_lst
        have la : acc.length = accd.length := dpa_len qa
        refine ⟨acc, hacc4, by omega, hlt, wipeS s4 vs, acc ++ [v], accd ++ [xd], ?_, upd_same, ?_, ?_, rs2⟩
        · intro x o hx2 e n
          rw [upd_ne (ne_of_none e hp)]
          exact (st12.trans st4) x o hx2 e n
        · have := (r4.wrO List.mem_cons_self pA hacc4 nt_lst nt_lst h0 (u := .lst (acc ++ [v]))).wipe hv
          rw [wb] at this
          exact this
        · rw [cut_upd List.mem_cons_self]
          exact dpa_snoc (Sub.dpa cuts qa) qv
    · have ei : i = ds.length := by omega
      subst ei
      have eR := lcRst_end rs'
      subst eR
      have w1 : Wp c W O A σ H1 (if accd.length ≤ sizeLine then .ok accd (putS s1 s' vs) else .bad) (fun ds _ H' => ∀ p vs, H' p = none → DpAll c.K (cut O H') vs ds → Q (.ref p) (upd H' p (.lst vs))) := w1
      rw [if_pos (show accd.length ≤ sizeLine from hz)] at w1
      refine .inl ⟨wk.stop _ (p :: O) H' (Nat.le_refl _) fw, ?_⟩
      have rr := r1.unlc hp st no r' hv ⟨acc, hacc⟩
      have := w1 (del p H') (fun a o ha e n => by
        rw [del_ne (ne_of_none e hp)]
        exact st a o ha e n) rr p acc del_same (by rw [cut_del]; exact qa)
      rw [back H' acc hacc] at this
      exact this
  · rw [if_neg no] at w1
    exact w1.elim
abbrev BlkR (c : Cf) (X : Cx) (scope : Scope) (elt : Expr) (f : M D) : Prop := ∀ (s : Shared) (H : Hp) (C : Addr) (cl : List (Str × Addr)) (fp : List Addr) (pn : List (Addr × Obj)) (xe : Value → Shared → Prop) (WB : WX), Takes ((X.blk s H scope (compEnvC scope cl C X.env) fp).tr pn xe) WB → DE c ((X.blk s H scope (compEnvC scope cl C X.env) fp).tr pn xe) WB elt f
/-- [elt for tg in iter], the element may raise -/
theorem f_lcR {elt tg iter : Expr} {scope : Scope} {own : List (Str × Nat)} {t : Tg} {fe : M D} (tk : Takes X W) (hN : X.N.Nodup) (ok : BlkOk X.N X.env.scope scope own) (hi : DI c X W tg iter fs) (hg : BlkG c X scope tg (own.map (·.2)) t) (he : BlkR c X scope elt fe)
    (hst : X.stack = X.env :: X.outer := by rfl) (hf : X.env.frame = some X.env.locals := by rfl) (hv : ∀ v ∈ own.map (·.2), c.np ≤ v := by exact of_decide_eq_true rfl) (hc : X.calm = true := by rfl) (hs : ∀ x, foldedSetIterable iter X.env x = pure x := by intro _; rfl) : DF c X W (.ListComp elt [⟨tg, iter, [], 0⟩] scope pos) (mLcR (own.map (·.2)) fs t fe) := by
  obtain ⟨wi, pi, si⟩ := hi
  exact ⟨_, pe_lcR hst hf tk hc hN pi ok (fun s H C cl fp => dg_best (hg s H C cl fp)) (fun s H C cl fp pn xe WB tkb => de_best (he s H C cl fp pn xe WB tkb)) hs, sem_lcR hv si⟩
end
end DL

/-! a new list from two; a store into one's own list; range with step -1; sorted of a list of texts -/
namespace DL
open PySem PySem.Spec L2
section
variable {c : Cf} {X : Cx} {W : WX} {a b : Expr} {f g fk fv : M D} {fs : M (List D)} {pos : Pos} {x : Str} {px : Pos}
/-! ### xs + ys as a list of one's own -/
def catL : D → D → Option (List D)
  | .list xs, .list ys => if xs.length + ys.length ≤ sizeLine then some (xs ++ ys) else none
  | _, _ => none
theorem f_cat (ha : DE c X W a f) (hb : DE c X W b g) (hK : c.K = X.K := by rfl) : DF c X W (.BinOp a .Add b pos) (mMap2 f g catL) := by
  obtain ⟨ta, pa, sa⟩ := ha
  obtain ⟨tb, pb, sb⟩ := hb
  refine ⟨_, pe_op op_catP pa pb, ?_⟩
  intro O A σ H s r Q w
  refine sa O A σ H s r _ (Wp.mono (Wp.bind w) ?_)
  intro d s1 H1 _ f1 r1 w1 v q
  refine sb O A σ H1 s1 r1 _ (Wp.mono (Wp.bind w1) ?_)
  intro e s2 H2 _ f2 r2 w2 u q2
  cases d with
  | list xs =>
    cases e with
    | list ys =>
      have w2 : Wp c W O A σ H2 (lift (if xs.length + ys.length ≤ sizeLine then some (xs ++ ys) else none) s2) (fun ds _ H' => ∀ p vs, H' p = none → DpAll c.K (cut O H') vs ds → Q (.ref p) (upd H' p (.lst vs))) := w2
      by_cases hz : xs.length + ys.length ≤ sizeLine
      · rw [if_pos hz] at w2
        obtain ⟨l1, vs1, rfl, h1, g1⟩ := dp_list (Sub.dp (f2.fwd r1.sub) q)
        obtain ⟨l2, vs2, rfl, h2, g2⟩ := dp_list q2
        have e1 := dpa_len g1
        have e2 := dpa_len g2
        exact ⟨l1, l2, vs1, vs2, rfl, rfl, hK ▸ (Sub.cut O H2).sql h1, hK ▸ (Sub.cut O H2).sql h2, by omega, fun p hp => w2 H2 (Stp.refl _ _) r2 p _ hp (dpa_app g1 g2)⟩
      · rw [if_neg hz] at w2
        exact w2.elim
    | none => exact w2.elim
    | bool _ => exact w2.elim
    | int _ => exact w2.elim
    | str _ => exact w2.elim
    | tuple _ => exact w2.elim
    | dict _ => exact w2.elim
  | none => exact w2.elim
  | bool _ => exact w2.elim
  | int _ => exact w2.elim
  | str _ => exact w2.elim
  | tuple _ => exact w2.elim
  | dict _ => exact w2.elim
/-! ### xs[k] = v, the list one's own -/
def sPutO (i : Nat) (fk fv : M D) : G := fun s => ex (fv s) fun v s1 => match ownAt s1 i with
  | none => .bad
  | some _ => ex (fk s1) fun k s2 => match k, ownAt s2 i with
    | .int z, some ds => (match ixN ds.length z with
      | some j => .nx (s2.set i (.own (ds.set j v)))
      | none => .bad)
    | _, _ => .bad
theorem s_putO (i : Nat) {pos' : Pos} (hk : DE c X W a fk) (hv' : DE c X W b fv) (hN : X.N[i]? = some x := by rfl) (hv : Vis X.env.scope x := by first | exact Or.inl rfl | exact Or.inr (Or.inl rfl) | exact Or.inr (Or.inr rfl))
    (hd : (x == ("__debug__" : Str)) = false := by decide) (hcd : (x == ("__classdict__" : Str)) = false := by decide) (hs : swapsWithSole [.Subscript (.Name x px) a pos'] b pos.line X.env = pure false := by rfl) (hw : swappedStores [.Subscript (.Name x px) a pos'] b X.env = pure none := by rfl)
    (ha : ∀ v, assign (.Subscript (.Name x px) a pos') X.env v = (do
      let ov ← holding [v] (eval (.Name x px) X.env)
      let iv ← holding [v, ov] (eval a X.env)
      standAt pos'
      holding [v, ov, iv] (setItem ov iv v)
      release [v, ov, iv] []) := by intro _; rfl) :
    DS c X W (.Assign [.Subscript (.Name x px) a pos'] b pos) (sPutO i fk fv) := by
  obtain ⟨tk, pk, sk⟩ := hk
  obtain ⟨tv, pv, sv⟩ := hv'
  refine ⟨_, ps_asg pv (pg_sub (pe_var hN hv hd hcd) pk set_list ha) hs hw, ?_⟩
  intro O A σ H s r E w
  refine sv O A σ H s r _ (Wp.mono (wp_ex r.sub w) ?_)
  intro v s1 H1 _ f1 r1 w1 vv qv
  cases z1 : ownAt s1 i with
  | none => rw [z1] at w1; exact w1.elim
  | some ds1 =>
    rw [z1] at w1
    obtain ⟨l, us1, hσ, hl, _⟩ := r1.own (ownAt_some z1)
    refine ⟨.ref l, hσ, ?_⟩
    have w1 : WpS c W O H1 (ex (fk s1) fun k s2 => match k, ownAt s2 i with
      | .int z, some ds => (match ixN ds.length z with
        | some j => .nx (s2.set i (.own (ds.set j v)))
        | none => .bad)
      | _, _ => .bad) E := w1
    refine sk O A σ H1 s1 r1 _ (Wp.mono (wp_ex r1.sub w1) ?_)
    intro k s2 H2 _ f2 r2 w2 kk qk
    cases k with
    | int z =>
      cases z2 : ownAt s2 i with
      | none => rw [z2] at w2; exact w2.elim
      | some ds =>
        rw [z2] at w2
        have w2 : WpS c W O H2 (match ixN ds.length z with | some j => .nx (s2.set i (.own (ds.set j v))) | none => .bad) E := w2
        cases z3 : ixN ds.length z with
        | none => rw [z3] at w2; exact w2.elim
        | some j =>
          rw [z3] at w2
          obtain ⟨l', us, hσ', hl', hus, quv⟩ := r2.own (ownAt_some z2)
          rw [hσ] at hσ'
          cases hσ'
          have e := dp_int qk
          subst e
          have qv2 : Dp c.K (cut O H2) vv v := Sub.dp (f2.fwd r1.sub) qv
          have lu := dpa_len quv
          refine ⟨l, us, z, j, rfl, rfl, hus, by rw [lu]; exact z3, ?_⟩
          have r3 := r2.chgB (b := .lst ds) (b' := .lst (ds.set j v)) (H' := upd H2 l (.lst (us.set j vv))) (ownAt_some z2) hσ hl' (fun a o n e _ => by rw [upd_ne n]; exact e) ⟨_, upd_same, by rw [cut_upd (r2.sub l hl')]; exact dpa_set qv2 j quv⟩ (fun _ => ⟨_, rfl⟩) (r2.tb.upd hus nt_lst)
          refine w2 O A σ _ ?_ r3
          show Sub (cut O H2) (cut O (upd H2 l _))
          rw [cut_upd (r2.sub l hl')]
          exact Sub.refl _
    | none => exact w2.elim
    | bool _ => exact w2.elim
    | str _ => exact w2.elim
    | list _ => exact w2.elim
    | tuple _ => exact w2.elim
    | dict _ => exact w2.elim
/-! ### range(i, j, -1) -/
def down (i : Int) (n : Nat) : List D := (List.range n).map fun k => .int (i + ((k : Nat) : Int) * (-1))
def rng3 : List D → Option (List D)
  | [.int i, .int j, .int k] => if btw (-(2 ^ 62) - 1) (2 ^ 62) i = true ∧ btw (-(2 ^ 62) - 1) (2 ^ 62) j = true ∧ (k == -1) = true then some (down i (i - j).toNat) else none
  | _ => none
theorem walk_c (O : List Addr) (H : Hp) (lo : Int) (n : Nat) : WalkOk c (Itc lo (-1) n) O H (down lo n) := by
  have dl : (down lo n).length = n := by unfold down; rw [List.length_map, List.length_range]
  refine ⟨fun i O' H' hi fw => ?_, fun i O' H' hi fw => ?_⟩
  · rw [dl] at hi
    refine ⟨hi, fun y H'' e => ?_⟩
    obtain ⟨e1, e2⟩ := e
    subst e1
    subst e2
    refine ⟨Grow.refl _ _, .int (lo + ((i : Nat) : Int) * (-1)), ?_, .int _⟩
    unfold down
    rw [List.getElem?_map, List.getElem?_range hi]
    rfl
  · rw [dl] at hi
    exact hi
theorem di_range3 {e3 tg : Expr} {p : Pos} (hm : X.mg "range" = none) (ha : DA c X W [a, b, e3] fs) (hg : Gl X "range" := by rfl) (hs : starEach [a, b, e3] X.env = (false, eval a X.env) :: starEach [b, e3] X.env := by rfl) (hpl : (backTo pos (starEach [b, e3] X.env)).any (·.1) = false := by rfl) :
    DI c X W tg (.Call (.Name "range" p) [a, b, e3] [] pos) (mMap fs rng3) := by
  obtain ⟨ta, pa, sa⟩ := ha
  refine ⟨_, pi_range3 hg hm pa hs hpl, ?_⟩
  intro O A σ H s r R w
  refine sa O A σ H s r _ (Wp.mono (Wp.bind w) ?_)
  intro ds s1 H1 _ f1 r1 w1 vs q
  cases e : rng3 ds with
  | none => rw [e] at w1; exact w1.elim
  | some is =>
    rw [e] at w1
    unfold rng3 at e
    split at e
    · rename_i i j k hfs
      split at e
      · rename_i h
        obtain ⟨h1, h2, h3⟩ := h
        cases e
        obtain ⟨a1, a2⟩ := btw_iff.mp h1
        obtain ⟨b1, b2⟩ := btw_iff.mp h2
        have hk : k = -1 := beq_iff_eq.mp h3
        subst hk
        match vs, q with
        | [v1, v2, v3], .cons q1 (.cons q2 (.cons q3 .nil)) =>
          have e1 := dp_int q1
          have e2 := dp_int q2
          have e3 := dp_int q3
          subst e1 e2 e3
          exact ⟨i, j, -1, (i - j).toNat, rfl, RgC.neg (by omega) a2 (by omega) b2, w1 H1 (Stp.refl _ _) r1 _ (walk_c _ _ _ _)⟩
      · cases e
    · cases e
end
end DL

/-! [elt for tg in iter for tg1 in iter1] -/
namespace DL
open PySem PySem.Spec L2
section
variable {c : Cf} {X : Cx} {W : WX} {fs : M (List D)} {pos : Pos}
def tiB (c : Cf) (W : WX) (f : M (List D)) : TI := fun σ H R => ∃ O A s, Rel c O A σ H s ∧ Wp c W O A σ H (f s) (fun ds _ H' => ∀ J, WalkOk c J O H' ds → R J H')
theorem di_best {tg iter : Expr} (h : DI c X W tg iter fs) : PI X tg iter (tiB c W fs) := by
  obtain ⟨wi, pi, si⟩ := h
  refine ⟨fun pins s σ H R I hq => ?_⟩
  obtain ⟨O, A, st, r, w⟩ := hq
  exact pi.run pins s σ H R I (si O A σ H st r R w)
theorem wipe_sub {σ : St} {vs vs1 : List Nat} (h : ∀ i ∈ vs1, i ∈ vs) : L2.wipe (L2.wipe σ vs1) vs = L2.wipe σ vs := by
  apply List.ext_getElem?
  intro i
  by_cases hi : i ∈ vs
  · by_cases hn : i < σ.length
    · rw [wipe_in hi (by rw [wipe_length]; exact hn), wipe_in hi hn]
    · rw [List.getElem?_eq_none (by rw [wipe_length, wipe_length]; omega), List.getElem?_eq_none (by rw [wipe_length]; omega)]
  · rw [wipe_out hi, wipe_out hi, wipe_out (fun z => hi (h i z))]
def lc2G (vs vs1 : List Nat) (t : Tg) (fi1 : M (List D)) (t1 : Tg) (elt : M D) : List D → M (List D)
  | [], s => .ok [] s
  | d :: r, s => match t d s with
    | none => .bad
    | some s1 => (fi1 s1).bind fun ds1 s2 => (lcG vs1 t1 mYes elt ds1 (wipeS s2 vs1)).bind fun xs s3 => (lc2G vs vs1 t fi1 t1 elt r (wipeS s3 vs)).bind fun ys s4 => .ok (xs ++ ys) s4
def mLc2 (vs vs1 : List Nat) (fi : M (List D)) (t : Tg) (fi1 : M (List D)) (t1 : Tg) (elt : M D) : M (List D) := fun s => (fi s).bind fun ds s1 => if noOwn vs s1 = true then match lc2G vs vs1 t fi1 t1 elt ds (wipeS s1 vs) with
    | .ok xs s2 => if xs.length ≤ sizeLine then .ok xs (putS s1 s2 vs) else .bad
    | _ => .bad
  else .bad
theorem lc2_turn {vs vs1 : List Nat} {t : Tg} {fi1 : M (List D)} {t1 : Tg} {elt : M D} {d : D} {r rest : List D} {s' sf : Sts} (h : lc2G vs vs1 t fi1 t1 elt (d :: r) s' = .ok rest sf) :
    ∃ s2, t d s' = some s2 ∧ ∃ ds1 s3, fi1 s2 = .ok ds1 s3 ∧ ∃ xs s4, lcG vs1 t1 mYes elt ds1 (wipeS s3 vs1) = .ok xs s4 ∧ ∃ ys, lc2G vs vs1 t fi1 t1 elt r (wipeS s4 vs) = .ok ys sf ∧ rest = xs ++ ys := by
  unfold lc2G at h
  cases z : t d s' with
  | none => rw [z] at h; cases h
  | some s2 =>
    rw [z] at h
    refine ⟨s2, rfl, ?_⟩
    have h : (fi1 s2).bind (fun ds1 s2 => (lcG vs1 t1 mYes elt ds1 (wipeS s2 vs1)).bind fun xs s3 => (lc2G vs vs1 t fi1 t1 elt r (wipeS s3 vs)).bind fun ys s4 => .ok (xs ++ ys) s4) = .ok rest sf := h
    cases z1 : fi1 s2 with
    | bad => rw [z1] at h; cases h
    | err _ _ => rw [z1] at h; cases h
    | ok ds1 s3 =>
      rw [z1] at h
      refine ⟨ds1, s3, rfl, ?_⟩
      have h : (lcG vs1 t1 mYes elt ds1 (wipeS s3 vs1)).bind (fun xs s3 => (lc2G vs vs1 t fi1 t1 elt r (wipeS s3 vs)).bind fun ys s4 => .ok (xs ++ ys) s4) = .ok rest sf := h
      cases z2 : lcG vs1 t1 mYes elt ds1 (wipeS s3 vs1) with
      | bad => rw [z2] at h; cases h
      | err _ _ => rw [z2] at h; cases h
      | ok xs s4 =>
        rw [z2] at h
        refine ⟨xs, s4, rfl, ?_⟩
        have h : (lc2G vs vs1 t fi1 t1 elt r (wipeS s4 vs)).bind (fun ys s4 => .ok (xs ++ ys) s4) = .ok rest sf := h
        cases z3 : lc2G vs vs1 t fi1 t1 elt r (wipeS s4 vs) with
        | bad => rw [z3] at h; cases h
        | err _ _ => rw [z3] at h; cases h
        | ok ys s5 =>
          rw [z3] at h
          have h : Rs.ok (xs ++ ys) s5 = .ok rest sf := h
          cases h
          exact ⟨ys, rfl, rfl⟩
theorem lc1_turn {vs : List Nat} {t : Tg} {elt : M D} {d : D} {r rest : List D} {s' sf : Sts} (h : lcG vs t mYes elt (d :: r) s' = .ok rest sf) :
    ∃ s2, t d s' = some s2 ∧ ∃ x s3, elt s2 = .ok x s3 ∧ ∃ ys, lcG vs t mYes elt r (wipeS s3 vs) = .ok ys sf ∧ rest = x :: ys := by
  rw [lcG_cons] at h
  cases z : t d s' with
  | none => rw [z] at h; cases h
  | some s2 =>
    rw [z] at h
    refine ⟨s2, rfl, ?_⟩
    have h : (elt s2).bind (fun x s3 => (lcG vs t mYes elt r (wipeS s3 vs)).bind fun xs s4 => .ok (x :: xs) s4) = .ok rest sf := h
    cases z1 : elt s2 with
    | bad => rw [z1] at h; cases h
    | err _ _ => rw [z1] at h; cases h
    | ok x s3 =>
      rw [z1] at h
      refine ⟨x, s3, rfl, ?_⟩
      have h : (lcG vs t mYes elt r (wipeS s3 vs)).bind (fun xs s4 => .ok (x :: xs) s4) = .ok rest sf := h
      cases z2 : lcG vs t mYes elt r (wipeS s3 vs) with
      | bad => rw [z2] at h; cases h
      | err _ _ => rw [z2] at h; cases h
      | ok ys s4 =>
        rw [z2] at h
        have h : Rs.ok (x :: ys) s4 = .ok rest sf := h
        cases h
        exact ⟨ys, rfl, rfl⟩
theorem sem_lc2 {wi : TI} {vs vs1 : List Nat} {t t1 : Tg} {fi1 : M (List D)} {elt : M D} (hv : ∀ v ∈ vs, c.np ≤ v) (hs1 : ∀ i ∈ vs1, i ∈ vs) (si : SemI c W wi fs) :
    SemF c W (tLc2 wi (tgB c vs t) (ttB c Wno mYes) (tiB c Wno fi1) (tgB c vs1 t1) (ttB c Wno mYes) (teB c Wno elt) vs vs1) (mLc2 vs vs1 fs t fi1 t1 elt) := by
  intro O A σ H s r Q w
  refine si O A σ H s r _ (Wp.mono (Wp.bind w) ?_)
  intro ds s1 H1 _ f1 r1 w1 J wk p hp
  have hv1 : ∀ v ∈ vs1, c.np ≤ v := fun v h => hv v (hs1 v h)
  by_cases no : noOwn vs s1 = true
  · rw [if_pos no] at w1
    have pO := r1.fresh hp
    have pA : p ∉ A := fun z => pO (r1.sub p z)
    have h0 : ∀ u, c.H0 p = some u → ¬ NT u := fun u e n => by
      by_cases ha : p ∈ c.A0
      · obtain ⟨q, hq, e2⟩ := List.mem_map.mp ha
        obtain ⟨_, h2, es, h3⟩ := r1.pn q hq
        obtain ⟨l', vs', e3, _, e4, _⟩ := r1.own h3
        rw [h2] at e3
        have e3 := Option.some.inj (Option.some.inj e3)
        injection e3 with e3
        rw [← e3, e2, hp] at e4
        cases e4
      · have := r1.kp p u e n ha
        rw [hp] at this; cases this
    cases hr : lc2G vs vs1 t fi1 t1 elt ds (wipeS s1 vs) with
    | err x s2 => rw [hr] at w1; exact w1.elim
    | bad => rw [hr] at w1; exact w1.elim
    | ok xs sf =>
      rw [hr] at w1
      by_cases hz : xs.length ≤ sizeLine
      · have w1 : Wp c W O A σ H1 (if xs.length ≤ sizeLine then .ok xs (putS s1 sf vs) else .bad) (fun ds _ H' => ∀ p vs, H' p = none → DpAll c.K (cut O H') vs ds → Q (.ref p) (upd H' p (.lst vs))) := w1
        rw [if_pos hz] at w1
        refine ⟨fun i m H' => m = ds.length - i ∧ i ≤ ds.length ∧ ∃ (s' : Sts) (acc : List V) (accd rest : List D), Stp A H1 H' ∧ H' p = some (.lst acc) ∧ Rel c (p :: O) A (L2.wipe σ vs) H' s' ∧ DpAll c.K (cut (p :: O) H') acc accd ∧ lc2G vs vs1 t fi1 t1 elt (ds.drop i) s' = .ok rest sf ∧ accd ++ rest = xs,
          ⟨ds.length, by simp, Nat.zero_le _, wipeS s1 vs, [], [], xs, fun a o _ e _ => by rw [upd_ne (ne_of_none e hp)]; exact e, upd_same, (r1.wipe hv).prot hp nt_lst, .nil, by rw [List.drop_zero]; exact hr, rfl⟩, ?_⟩
        rintro i m H' ⟨rfl, hi, s', acc, accd, rest, st, hacc, r', qa, hl, hx⟩
        have fwd : ∀ H2, Stp A H1 H2 → Fwd O H1 (p :: O) H2 := fun H2 st a o e n => by
          obtain ⟨h1, h2⟩ := cut_some e
          rw [cut_out (by simp [h1, ne_of_none h2 hp])]
          exact st a o (fun z => h1 (r1.sub a z)) h2 n
        by_cases hlt : i < ds.length
        · refine .inr ?_
          obtain ⟨hgo, hy⟩ := wk.go i (p :: O) H' hlt (fwd H' st)
          refine ⟨hgo, fun H2 => i + 1 ≤ ds.length ∧ ∃ (s' : Sts) (acc : List V) (accd rest : List D), Stp A H1 H2 ∧ H2 p = some (.lst acc) ∧ Rel c (p :: O) A (L2.wipe σ vs) H2 s' ∧ DpAll c.K (cut (p :: O) H2) acc accd ∧ lc2G vs vs1 t fi1 t1 elt (ds.drop (i + 1)) s' = .ok rest sf ∧ accd ++ rest = xs, fun H2 h => ⟨ds.length - (i + 1), by omega, rfl, h⟩, fun x H2 y => ?_⟩
          obtain ⟨gr, d, hd, qd⟩ := hy x H2 y
          have e : ds.drop i = d :: ds.drop (i + 1) := by
            obtain ⟨h1, h2⟩ := List.getElem?_eq_some_iff.mp hd
            rw [← h2]
            exact List.drop_eq_getElem_cons hlt
          rw [e] at hl
          obtain ⟨s2, z, ds1, s3, zf, xs1, s4, zl, ys, zr, er⟩ := lc2_turn hl
          subst er
          have hacc2 : H2 p = some (.lst acc) := gr.sub p _ hacc nt_lst
          refine ⟨p :: O, A, s', d, s2, r'.grow gr, qd, z, fun σ2 b2 r2 => ⟨wipe_but b2, ?_⟩⟩
          have wb : L2.wipe σ2 vs = L2.wipe σ vs := wipe_but b2
          refine ⟨p :: O, A, s2, r2, ?_⟩
          intro H3 st3 r3
          refine (if_pos rfl).mpr ?_
          have st13 : Stp A H1 H3 := (st.trans (gr.stp A)).trans st3
          have hacc3 : H3 p = some (.lst acc) := st3 p _ pA hacc2 nt_lst
          have cuts3 : Sub (cut (p :: O) H') (cut (p :: O) H3) := Sub.trans (gr.cut _) (st3.fwd r2.sub)
          refine ⟨p :: O, A, s2, r3, ?_⟩
          rw [zf]
          intro H4 st4 r4 J1 wk1
          have st14 : Stp A H1 H4 := st13.trans st4
          have hacc4 : H4 p = some (.lst acc) := st4 p _ pA hacc3 nt_lst
          have cuts4 : Sub (cut (p :: O) H') (cut (p :: O) H4) := Sub.trans cuts3 (st4.fwd r3.sub)
          have hx1 : accd ++ xs1 ++ ys = xs := by rw [List.append_assoc]; exact hx
          -- the inner loop
          refine ⟨fun j k H' => k = ds1.length - j ∧ j ≤ ds1.length ∧ ∃ (s' : Sts) (acc : List V) (accd' rest1 : List D), Stp A H1 H' ∧ Fwd (p :: O) H4 (p :: O) H' ∧ H' p = some (.lst acc) ∧ Rel c (p :: O) A (L2.wipe σ2 vs1) H' s' ∧ DpAll c.K (cut (p :: O) H') acc accd' ∧ lcG vs1 t1 mYes elt (ds1.drop j) s' = .ok rest1 s4 ∧ accd' ++ rest1 = accd ++ xs1,
            ⟨ds1.length, by simp, Nat.zero_le _, wipeS s3 vs1, acc, accd, xs1, st14, Fwd.refl _ _, hacc4, r4.wipe hv1, Sub.dpa cuts4 qa, by rw [List.drop_zero]; exact zl, rfl⟩, ?_⟩
          rintro j k H5 ⟨rfl, hj, s5, acc5, accd5, rest5, st5, fw5, hacc5, r5, qa5, hl5, hx5⟩
          by_cases hlt1 : j < ds1.length
          · refine .inr ?_
            obtain ⟨hgo1, hy1⟩ := wk1.go j (p :: O) H5 hlt1 fw5
            refine ⟨hgo1, fun H6 => j + 1 ≤ ds1.length ∧ ∃ (s' : Sts) (acc : List V) (accd' rest1 : List D), Stp A H1 H6 ∧ Fwd (p :: O) H4 (p :: O) H6 ∧ H6 p = some (.lst acc) ∧ Rel c (p :: O) A (L2.wipe σ2 vs1) H6 s' ∧ DpAll c.K (cut (p :: O) H6) acc accd' ∧ lcG vs1 t1 mYes elt (ds1.drop (j + 1)) s' = .ok rest1 s4 ∧ accd' ++ rest1 = accd ++ xs1, fun H6 h => ⟨ds1.length - (j + 1), by omega, rfl, h⟩, fun x6 H6 y6 => ?_⟩
            obtain ⟨gr6, d6, hd6, qd6⟩ := hy1 x6 H6 y6
            have e6 : ds1.drop j = d6 :: ds1.drop (j + 1) := by
              obtain ⟨h1, h2⟩ := List.getElem?_eq_some_iff.mp hd6
              rw [← h2]
              exact List.drop_eq_getElem_cons hlt1
            rw [e6] at hl5
            obtain ⟨s6, z6, xd, s7, ze, ys6, zr6, er6⟩ := lc1_turn hl5
            subst er6
            have hacc6 : H6 p = some (.lst acc5) := gr6.sub p _ hacc5 nt_lst
            refine ⟨p :: O, A, s5, d6, s6, r5.grow gr6, qd6, z6, fun σ3 b3 r6 => ⟨wipe_but b3, ?_⟩⟩
            have wb1 : L2.wipe σ3 vs1 = L2.wipe σ2 vs1 := wipe_but b3
            refine ⟨p :: O, A, s6, r6, ?_⟩
            intro H7 st7 r7
            refine (if_pos rfl).mpr ?_
            refine ⟨p :: O, A, s6, r7, ?_⟩
            rw [ze]
            intro H8 st8 r8 v qv
            have st68 : Stp A H6 H8 := st7.trans st8
            have hacc8 : H8 p = some (.lst acc5) := st68 p _ pA hacc6 nt_lst
            have cuts8 : Sub (cut (p :: O) H5) (cut (p :: O) H8) := Sub.trans (gr6.cut _) (st68.fwd r6.sub)
            have la : acc5.length = accd5.length := dpa_len qa5
            have tot : accd5.length + (ys6.length + 1) + ys.length = xs.length := by
              rw [← hx1, ← hx5]
              simp only [List.length_append, List.length_cons]
            refine ⟨acc5, hacc8, by omega, hlt1, wipeS s7 vs1, acc5 ++ [v], accd5 ++ [xd], ys6, ?_, ?_, upd_same, ?_, ?_, zr6, by rw [← hx5, List.append_assoc]; rfl⟩
            · intro x o hx2 e n
              rw [upd_ne (ne_of_none e hp)]
              exact ((st5.trans (gr6.stp A)).trans st68) x o hx2 e n
            · have f8 : Fwd (p :: O) H4 (p :: O) H8 := fw5.trans cuts8
              show Sub (cut (p :: O) H4) (cut (p :: O) (upd H8 p _))
              rw [cut_upd List.mem_cons_self]
              exact f8
            · have := (r8.wrO List.mem_cons_self pA hacc8 nt_lst nt_lst h0 (u := .lst (acc5 ++ [v]))).wipe hv1
              rw [wb1] at this
              exact this
            · rw [cut_upd List.mem_cons_self]
              exact dpa_snoc (Sub.dpa cuts8 qa5) qv
          · have ej : j = ds1.length := by omega
            subst ej
            rw [List.drop_length] at hl5
            have hl5 : Rs.ok [] s5 = .ok rest5 s4 := hl5
            cases hl5
            refine .inl ⟨wk1.stop _ (p :: O) H5 (Nat.le_refl _) fw5, hlt, wipeS s4 vs, acc5, accd5, ys, st5, hacc5, ?_, qa5, zr, ?_⟩
            · have := r5.wipe hv
              rw [wipe_sub hs1, wb] at this
              exact this
            · rw [List.append_nil] at hx5
              rw [hx5]
              exact hx1
        · have ei : i = ds.length := by omega
          subst ei
          rw [List.drop_length] at hl
          have hl : Rs.ok [] s' = .ok rest sf := hl
          cases hl
          refine .inl ⟨wk.stop _ (p :: O) H' (Nat.le_refl _) (fwd H' st), ?_⟩
          have rr := r1.unlc hp st no r' hv ⟨acc, hacc⟩
          have ee : upd (del p H') p (.lst acc) = H' := by
            funext x
            by_cases hx2 : x = p
            · rw [hx2, upd_same, hacc]
            · rw [upd_ne hx2, del_ne hx2]
          have := w1 (del p H') (fun a o ha e n => by
            rw [del_ne (ne_of_none e hp)]
            exact st a o ha e n) rr p acc del_same (by rw [cut_del, ← hx, List.append_nil]; exact qa)
          rw [ee] at this
          exact this
      · have w1 : Wp c W O A σ H1 (if xs.length ≤ sizeLine then .ok xs (putS s1 sf vs) else .bad) (fun ds _ H' => ∀ p vs, H' p = none → DpAll c.K (cut O H') vs ds → Q (.ref p) (upd H' p (.lst vs))) := w1
        rw [if_neg hz] at w1
        exact w1.elim
  · rw [if_neg no] at w1
    exact w1.elim
abbrev BlkI (c : Cf) (X : Cx) (scope : Scope) (tg iter : Expr) (f : M (List D)) : Prop := ∀ (s : Shared) (H : Hp) (C : Addr) (cl : List (Str × Addr)) (fp : List Addr), DI c (X.blk s H scope (compEnvC scope cl C X.env) fp) Wno tg iter f
theorem dg_weak {e : Expr} {vs0 vs : List Nat} {t : Tg} (h : DG c X e vs0 t) (hs : ∀ i ∈ vs0, i ∈ vs) : DG c X e vs t := by
  obtain ⟨g, pg, sg⟩ := h
  exact ⟨g, pg, fun O A σ H s r v d s' q e Q k => sg O A σ H s r v d s' q e Q fun σ' b r' => k σ' ⟨b.1, fun i hi => b.2 i fun z => hi (hs i z)⟩ r'⟩
theorem f_lc2 {elt tg iter tg1 iter1 : Expr} {scope : Scope} {own : List (Str × Nat)} {vs0 vs1 : List Nat} {t t1 : Tg} {fi1 : M (List D)} {fe : M D} (hN : X.N.Nodup) (ok : BlkOk X.N X.env.scope scope own) (hi : DI c X W tg iter fs) (hg : BlkG c X scope tg vs0 t) (hi1 : BlkI c X scope tg1 iter1 fi1) (hg1 : BlkG c X scope tg1 vs1 t1) (he : BlkE c X scope elt fe)
    (hs0 : ∀ i ∈ vs0, i ∈ own.map (·.2) := by exact of_decide_eq_true rfl) (hs1 : ∀ i ∈ vs1, i ∈ own.map (·.2) := by exact of_decide_eq_true rfl) (hv : ∀ v ∈ own.map (·.2), c.np ≤ v := by exact of_decide_eq_true rfl) (hc : X.calm = true := by rfl) (hs : ∀ x, foldedSetIterable iter X.env x = pure x := by intro _; rfl) (hs2 : ∀ env x, foldedSetIterable iter1 env x = pure x := by intro _ _; rfl) :
    DF c X W (.ListComp elt [⟨tg, iter, [], 0⟩, ⟨tg1, iter1, [], 0⟩] scope pos) (mLc2 (own.map (·.2)) vs1 fs t fi1 t1 fe) := by
  obtain ⟨wi, pi, si⟩ := hi
  exact ⟨_, pe_lc2 hc hN pi ok hs1 (fun s H C cl fp => dg_best (dg_weak (hg s H C cl fp) hs0)) (fun s H C cl fp => dts_nil) (fun s H C cl fp => di_best (hi1 s H C cl fp)) (fun s H C cl fp => dg_best (hg1 s H C cl fp)) (fun s H C cl fp => dts_nil) (fun s H C cl fp => de_best (he s H C cl fp)) hs hs2, sem_lc2 hv hs1 si⟩
end
end DL

/-! sorted(a list of texts) -/
namespace DL
open PySem PySem.Spec L2
section
open PySem.W PyProof.Rows
def rSortL (K : PySem.W.Frag) : List V → Hp → VK → Prop := fun xs H Q => ∃ (a : Addr) (ks : List Str), xs = [V.ref a] ∧ SqL K H a (ks.map V.str) ∧ ks.length ≤ sizeLine ∧ ∀ p, H p = none → Q (.ref p) (upd H p (.lst ((ks.mergeSort leS).map V.str)))
theorem strs_each : ∀ {ks : List Str} {vs : List Value}, Vals (ks.map V.str) vs → EachIs isStr vs ks
  | [], [], _ => .nil
  | [], _ :: _, r => by cases r
  | _ :: _, [], r => by cases r
  | k :: ks, v :: vs, r => by
    cases r with
    | cons h t => exact .cons h (strs_each t)
theorem call_sortedL {X : Cx} (hu : X.A.units + 3 < cLine) : CallR X (.builtin "sorted") (rSortL X.K) := by
  intro pins s σ H xs us Q I r h
  obtain ⟨l, ks, rfl, hl, hz, q⟩ := h
  rw [Vals.ref1 r]
  obtain ⟨its, r2, ⟨o, n, ho, hc, _, hd⟩, _⟩ := I.list hl
  have e := strs_each r2
  refine sorted_data (R := isStr) (enc := PyData.str) (bs := ks) ⟨o, ho, hc, n, hd⟩ e (e.mono fun v x ⟨t, hv⟩ => ⟨[], by rw [hv]; exact Reads.str x t⟩) (AllAlike.of fun _ _ => rfl) (Sortable.others (enc := PyData.str) fun _ => ⟨(fun z => by cases z), (fun _ z => by cases z)⟩) hz (fun b _ => by show _ + 2 + 0 < cLine; omega) fun out hlen eo => ?_
  obtain ⟨c, hcc⟩ := sortedAll_at s.heap its (List.toArray out)
  rw [leS_eq] at eo
  have hlen2 : ((ks.mergeSort leS).map V.str).length ≤ sizeLine := by rw [List.length_map, List.length_mergeSort]; exact hz
  exact ⟨.ref (s.heap.objs.size + 1), upd H (s.heap.objs.size + 1) (.lst ((ks.mergeSort leS).map V.str)), I.laid (t' := s.toks) (fun b o hb => sortedAll_old hb) (Nat.le_succ _) ⟨hlen2, out, c, vals_strs eo, hcc⟩, rfl, q _ (I.hok.fresh (Nat.le_succ _))⟩
end
section
variable {c : Cf} {X : Cx} {W : WX} {a : Expr} {f : M D} {pos : Pos}
def sortL : D → Option (List D)
  | .list xs => match strsOf xs with
    | some ks => if ks.length ≤ sizeLine then some ((ks.mergeSort leS).map .str) else none
    | none => none
  | _ => none
theorem f_sortL {p : Pos} (hu : X.A.units + 3 < cLine) (hm : X.mg "sorted" = none) (ha : DE c X W a f) (hK : c.K = X.K := by rfl) (hg : Gl X "sorted" := by rfl)
    (he : starEach [a] X.env = (false, eval a X.env) :: starEach [] X.env := by rfl) (hpl : (backTo pos (starEach [] X.env)).any (·.1) = false := by rfl) : DF c X W (.Call (.Name "sorted" p) [a] [] pos) (mMap f sortL) := by
  obtain ⟨ta, pa, sa⟩ := ha
  refine ⟨_, pe_callB (call_sortedL hu) hg hm (by decide +kernel) (pa_cons pa pa_nil he) (by decide) (by decide) he hpl, ?_⟩
  intro O A σ H s r Q w
  refine sa O A σ H s r _ (Wp.mono (Wp.bind w) ?_)
  intro d s1 H1 _ f1 r1 w1 v q
  cases d with
  | list xs =>
    have w1 : Wp c W O A σ H1 (lift (match strsOf xs with | some ks => if ks.length ≤ sizeLine then some ((ks.mergeSort leS).map PyData.str) else none | none => none) s1) (fun ds _ H' => ∀ p vs, H' p = none → DpAll c.K (cut O H') vs ds → Q (.ref p) (upd H' p (.lst vs))) := w1
    cases z : strsOf xs with
    | none => rw [z] at w1; exact w1.elim
    | some ks =>
      rw [z] at w1
      have w1 : Wp c W O A σ H1 (lift (if ks.length ≤ sizeLine then some ((ks.mergeSort leS).map PyData.str) else none) s1) (fun ds _ H' => ∀ p vs, H' p = none → DpAll c.K (cut O H') vs ds → Q (.ref p) (upd H' p (.lst vs))) := w1
      by_cases hz : ks.length ≤ sizeLine
      · rw [if_pos hz] at w1
        obtain ⟨l, vs, rfl, h1, h2⟩ := dp_list q
        rw [strsOf_ok z h2] at h1
        exact ⟨l, ks, rfl, hK ▸ (Sub.cut O H1).sql h1, hz, fun p hp => w1 H1 (Stp.refl _ _) r1 p _ hp (dp_strs _)⟩
      · rw [if_neg hz] at w1
        exact w1.elim
  | none => exact w1.elim
  | bool _ => exact w1.elim
  | int _ => exact w1.elim
  | str _ => exact w1.elim
  | tuple _ => exact w1.elim
  | dict _ => exact w1.elim
end
end DL

namespace DL
open PySem PySem.Spec L2
theorem hu3 {A : Around} {k : Nat} (hr : Room k A) : A.units + 3 < cLine := Nat.lt_of_le_of_lt (Nat.add_le_add_left (by decide : 3 ≤ 64) _) hr.units
end DL

/-! the call of a key: lambda p: (len(p[1]), p[1], p[0]) -/
namespace DL
open PySem PySem.Spec PyProof.Rows L2
section
variable {prog : Program} {w : World} {A : Around} {E : Value → Shared → Prop} {s : Shared} {cenv : Env} {x : Str} {m : Str → Option Value} {p1 p2 p3 p4 p5 pos : Pos} {t : Addr} {items : Array Value} {v : Value}
/-- p[j] of a tuple -/
theorem ev_item {i : Int} {kk : Nat} {Q : Value → Shared → Prop} {j : Nat} (hk : cenv.scope.kind = .function) (hl : cenv.scope.names.lookup x = some .local) (hn : s.heap.Ns cenv.locals m) (hm : m x = some (.ref t)) (hd : (x == ("__debug__" : Str)) = false) (ht : IsTup s.heap t items)
    (hi : i = (j : Int)) (hj : items[j]? = some v) (hz : items.size ≤ 1000) (h : Q v { s with toks := s.toks + 1 }) : wpAny (model prog w) A (eval (.Subscript (.Name x p1) (.Constant (.int i) kk p2) p3) cenv) Q E s := by
  refine Subscript_Constant (wpAny_Name (wpAny_loadName_local hk hl hn hm ?_) hd)
  refine wpAny_Constant_int ?_
  have ht' : IsTup ({ s with toks := s.toks + 1 } : Shared).heap t items := ht
  have hlt : j < items.size := (Array.getElem?_eq_some_iff.mp hj).1
  exact ⟨"tuple", _, slot_tuple_getitem.lookup, ht'.typeIs, PyProof.Rows.getItem_tuple ht' (by omega) (by omega) (by rw [hi]; exact seqIndex_of (by omega) (by omega)) hj h⟩
/-- what a key's frame sees -/
structure KeyEnv (cenv : Env) (mg mb : Str → Option Value) (h : Heap) (m : Str → Option Value) (x : Str) (t : Addr) : Prop where
  kind : cenv.scope.kind = .function
  loc : cenv.scope.names.lookup x = some .local
  ns : h.Ns cenv.locals m
  at_ : m x = some (.ref t)
  glob : cenv.globals = mainGlobals
  blt : cenv.builtins = builtinsNs
  hg : h.Ns mainGlobals mg
  hb : h.Ns builtinsNs mb
  no : mg "len" = none
  len : mb "len" = some (.builtin "len")
  gl : cenv.kindOf ("len" : Str) = some .globalImplicit
/-- len(p[j]) -/
theorem ev_len {mg mb : Str → Option Value} {i : Int} {kk : Nat} {Q : Value → Shared → Prop} {j : Nat} {t2 : Addr} {its : Array Value} (K : KeyEnv cenv mg mb s.heap m x t) (hd : (x == ("__debug__" : Str)) = false) (ht : IsTup s.heap t items)
    (hi : i = (j : Int)) (hj : items[j]? = some (.ref t2)) (hz : items.size ≤ 1000) (ht2 : IsTup s.heap t2 its) (hz2 : its.size ≤ 1000) (h : ∀ tk k, Q (.int its.size tk) { s with toks := k }) :
    wpAny (model prog w) A (eval (.Call (.Name "len" p4) [.Subscript (.Name x p1) (.Constant (.int i) kk p2) p3] [] p5) cenv) Q E s := by
  refine wpAny_Call_Name_kw (Calls.Name_function_global K.kind K.gl (Calls.loadGlobal_builtin (by rw [K.glob]; exact K.hg) K.no (by rw [K.blt]; exact K.hb) K.len ?_) (by decide))
  refine PyProof.Rows.callWith_builtin1 (Calls.spliced_cons (ev_item K.kind K.loc K.ns K.at_ hd ht hi hj hz (Calls.spliced_nil ?_))) rfl rfl
  exact PyProof.Rows.len_tuple (s := { s with toks := s.toks + 1 }) ht2 (by omega) (h _ _)
/-- (len(p[1]), p[1], p[0]) -/
theorem ev_key3 {mg mb : Str → Option Value} {k1 k2 k3 k4 : Nat} {q1 q2 q3 q4 q5 q6 q7 q8 q9 q10 q11 : Pos} {Q : Value → Shared → Prop} {t2 : Addr} {its : Array Value} {v0 : Value} (K : KeyEnv cenv mg mb s.heap m x t) (hd : (x == ("__debug__" : Str)) = false) (ht : IsTup s.heap t #[v0, .ref t2]) (ht2 : IsTup s.heap t2 its) (hz2 : its.size ≤ 1000)
    (h : ∀ tk k, Q (.ref s.heap.objs.size) { s with heap := s.heap.push { cls := .type "tuple", data := .seq #[.int its.size tk, .ref t2, v0] }, toks := k }) :
    wpAny (model prog w) A (eval (.Tuple [.Call (.Name "len" q1) [.Subscript (.Name x q2) (.Constant (.int 1) k1 q3) q4] [] q5, .Subscript (.Name x q6) (.Constant (.int 1) k2 q7) q8, .Subscript (.Name x q9) (.Constant (.int 0) k3 q10) q11] k4 pos) cenv) Q E s := by
  refine PyProof.Rows.Tuple_ (Calls.spliced_cons (ev_len (j := 1) K hd ht rfl rfl (by show 2 ≤ 1000; omega) ht2 hz2 fun tk k => ?_))
  refine Calls.spliced_cons (ev_item (s := { s with toks := k }) (j := 1) K.kind K.loc K.ns K.at_ hd ht rfl rfl (by show 2 ≤ 1000; omega) ?_)
  refine Calls.spliced_cons (ev_item (s := { s with toks := k + 1 }) (j := 0) K.kind K.loc K.ns K.at_ hd ht rfl rfl (by show 2 ≤ 1000; omega) ?_)
  refine Calls.spliced_nil ?_
  exact wpAny_newObj_type (h tk _) (by show 3 ≤ sizeLine; decide)
end
end DL

namespace DL
open PySem PySem.Spec PyProof.Rows L2
section
variable {prog : Program} {w : World} {A : Around} {s : Shared} {x : Str} {t : Addr} {pos : Pos}
/-- the key's expression -/
abbrev key3E (x : Str) (q : List Pos) (k : List Nat) : Expr := .Tuple [.Call (.Name "len" (q.getD 0 ⟨0, 0, 0, 0⟩)) [.Subscript (.Name x (q.getD 1 ⟨0, 0, 0, 0⟩)) (.Constant (.int 1) (k.getD 0 0) (q.getD 2 ⟨0, 0, 0, 0⟩)) (q.getD 3 ⟨0, 0, 0, 0⟩)] [] (q.getD 4 ⟨0, 0, 0, 0⟩),
  .Subscript (.Name x (q.getD 5 ⟨0, 0, 0, 0⟩)) (.Constant (.int 1) (k.getD 1 0) (q.getD 6 ⟨0, 0, 0, 0⟩)) (q.getD 7 ⟨0, 0, 0, 0⟩), .Subscript (.Name x (q.getD 8 ⟨0, 0, 0, 0⟩)) (.Constant (.int 0) (k.getD 2 0) (q.getD 9 ⟨0, 0, 0, 0⟩)) (q.getD 10 ⟨0, 0, 0, 0⟩)] (k.getD 3 0) (q.getD 11 ⟨0, 0, 0, 0⟩)
theorem key_call3 {mg mb : Str → Option Value} {f c' : Addr} {qn : Str} {params : Arguments} {scope : Scope} {pm ctv : Value} {q : List Pos} {k : List Nat} {t2 : Addr} {its : Array Value} {v0 : Value} {dm d0 : PyData}
    (hroom : A.depth < recursionLimit) (ho : s.heap.get? f = some (PySem.W.kla_obj "<lambda>" qn params (key3E x q k) scope [] pm c' ctv)) (hcd : s.heap.CodeRec (.ref c') qn)
    (hbind : bindArgs (PySem.W.kla_fn "<lambda>" qn params (key3E x q k) scope [] pm (.ref c') ctv) ⟨[.ref t], []⟩ = pure [(x, .ref t)])
    (hkind : scope.kind = .function) (hco : scope.isCoroutine = false) (hgen : scope.isGenerator = false) (hcell : ∀ y ∈ scope.names, y.2 ≠ .cell) (hx : scope.names.lookup x = some .local) (hgl : scope.names.lookup ("len" : Str) = some .globalImplicit) (hd : (x == ("__debug__" : Str)) = false)
    (lim : s.heap.NoLimit) (hg : s.heap.Ns mainGlobals mg) (hb : s.heap.Ns builtinsNs mb) (no : mg "len" = none) (len : mb "len" = some (.builtin "len"))
    (ht : IsTup s.heap t #[v0, .ref t2]) (ht2 : IsTup s.heap t2 its) (hz2 : its.size ≤ 1000) (r2 : Reads s.heap (.ref t2) dm []) (r0 : Reads s.heap v0 d0 []) :
    wpAny (model prog w) A (call (.ref f) [.ref t]) (PySem.W.KeyPure (.tuple [.int its.size, dm, d0]) s) (fun _ _ => False) s := by
  refine wpAny_call (PySem.W.kla_callFunE hroom ho rfl hco hgen rfl hcd ?_)
  rw [hbind]
  refine wpAny_pure (wpAny_newFunctionEnv hcell (fun y hy => by
    rw [List.mem_singleton.mp hy]; exact hx) (fun h₁ hns hsb => ⟨lim.fresh _ hsb, ?_⟩) hkind)
  have kp : ∀ b o, s.heap.get? b = some o → h₁.get? b = some o := fun b o e => hsb.extBut b o (Nat.ne_of_lt (Heap.lt_size e)) (Heap.get?_push_of_some _ e)
  have K : KeyEnv (newEnv scope s.heap.objs.size mainGlobals [] (qn ++ ".<locals>.") (some f) (.ref c') none builtinsNs) mg mb h₁ (fun y => [(x, Value.ref t)].reverse.lookup y) x t :=
    ⟨hkind, hx, hns, by show List.lookup x [(x, Value.ref t)] = _; rw [List.lookup_cons, beq_self_eq_true], rfl, rfl, hg.keeps kp, hb.keeps kp, no, len, hgl⟩
  have t1 : IsTup h₁ t #[v0, .ref t2] := ht.keeps kp
  have t1' : IsTup h₁ t2 its := ht2.keeps kp
  refine PySem.W.kla_codeExpr (ev_key3 (s := { s with heap := h₁, toks := s.toks + [(x, Value.ref t)].length }) K hd t1 t1' hz2 fun tk kk => ?_)
  refine ⟨_, _, rfl, fun b o e => Heap.get?_push_of_some _ (kp b o e), ?_⟩
  have kp2 : ∀ b o, s.heap.get? b = some o → (h₁.push { cls := .type "tuple", data := .seq #[.int its.size tk, .ref t2, v0] }).get? b = some o := fun b o e => Heap.get?_push_of_some _ (kp b o e)
  have a2 := PyProof.Rows.Reads.keeps kp2 r2
  have a0 := PyProof.Rows.Reads.keeps kp2 r0
  exact Reads.tuple (Heap.get?_push_size _ rfl) rfl rfl (ReadsAll.cons (Reads.int _ _) (ReadsAll.cons a2 (ReadsAll.cons a0 ReadsAll.nil)))
end
end DL

/-! sorted(pairs, key=lambda p: (len(p[1]), p[1], p[0])) -/
namespace DL
open PySem PySem.Spec PyProof.Rows L2
section
variable {X : Cx}
/-- a pair: a text, a tuple of texts -/
abbrev Pr := Str × List Str
def prV (H : Hp) (v : V) (p : Pr) : Prop := ∃ t t2, v = .ref t ∧ H t = some (.tup [.str p.1, .ref t2]) ∧ H t2 = some (.tup (p.2.map V.str)) ∧ p.2.length ≤ 1000
def keyP (p : Pr) : PyData := .tuple [.int p.2.length, .tuple (p.2.map .str), .str p.1]
theorem reads_strs {h : Heap} : ∀ {ks : List Str} {vs : List Value}, Vals (ks.map V.str) vs → ReadsAll h vs (ks.map PyData.str) []
  | [], [], _ => .nil
  | [], _ :: _, r => by cases r
  | _ :: _, [], r => by cases r
  | k :: ks, v :: vs, r => by
    cases r with
    | cons h1 t =>
      obtain ⟨tk, rfl⟩ := h1
      exact ReadsAll.cons (Reads.str k tk) (reads_strs t)
end
end DL

/-! sorted(pairs, key=lambda p: (len(p[1]), p[1], p[0])) -/
namespace DL
open PySem PySem.Spec PyProof.Rows L2
open PySem.W (alike alikeAll EachIs dataLe)
section
variable {X : Cx}
/-- a pair as a value -/
def PrV (K : PySem.W.Frag) (H : Hp) (v : V) (p : Pr) : Prop := ∃ t t2, v = .ref t ∧ SqT K H t [.str p.1, .ref t2] ∧ SqT K H t2 (p.2.map V.str) ∧ p.2.length ≤ 1000
theorem alike_strs : ∀ xs ys : List Str, alikeAll (xs.map PyData.str) (ys.map PyData.str) = true
  | [], _ => by simp [alikeAll]
  | _ :: _, [] => by simp [alikeAll]
  | x :: xs, y :: ys => by
    show (alike (.str x) (.str y) && alikeAll (xs.map PyData.str) (ys.map PyData.str)) = true
    rw [alike_strs xs ys]
    rfl
theorem alike_key (p q : Pr) : alike (keyP p) (keyP q) = true := by
  show (alike (.int p.2.length) (.int q.2.length) && (alike (.tuple (p.2.map .str)) (.tuple (q.2.map .str)) && (alike (.str p.1) (.str q.1) && alikeAll [] []))) = true
  have h : alike (.tuple (p.2.map PyData.str)) (.tuple (q.2.map PyData.str)) = true := alike_strs _ _
  rw [h]
  rfl
def tSortP (T : List (Addr × Str)) (K : PySem.W.Frag) (te : TE) : TE := fun σ H Q => te σ H fun x H1 => ∃ (R : V → Pr → Prop) (l : Addr) (xs : List V) (ps : List Pr), x = .ref l ∧ SqL K H1 l xs ∧ EachIs (fun y pr => R y pr ∧ PrV K H1 y pr) xs ps ∧ ps.length ≤ sizeLine ∧ LamX.Tabs T H1 ∧
  ∀ H2, LamX.ExtN H1 H2 → LamX.Tabs T H2 → ∀ p ys, H2 p = none → EachIs R ys (ps.mergeSort (dataLe false keyP)) → Q (.ref p) (upd H2 p (.lst ys))
theorem sq_ext {H H' : Hp} (e : LamX.ExtN H H') : Sub H H' := fun a o h n => e a o h n
theorem strs_depth : ∀ ks : List Str, PyData.depthAll (ks.map PyData.str) = 0
  | [] => rfl
  | k :: r => by
    show max (PyData.depth (.str k)) (PyData.depthAll (r.map PyData.str)) = 0
    rw [strs_depth r]
    rfl
theorem key_depth (p : Pr) : (keyP p).depth ≤ 2 := by
  show max (PyData.depth (.int p.2.length)) (max (PyData.depthAll (p.2.map PyData.str) + 1) (max (PyData.depth (.str p.1)) 0)) + 1 ≤ 2
  rw [strs_depth]
  show max 0 (max (0 + 1) (max 0 0)) + 1 ≤ 2
  decide
theorem each_out {R : Value → Pr → Prop} {S : V → Pr → Prop} (h : ∀ v p, R v p → ∃ y, RelV y v ∧ S y p) : ∀ {out : List Value} {ps : List Pr}, EachIs R out ps → ∃ ys : List V, Vals ys out ∧ EachIs S ys ps
  | _, _, .nil => ⟨[], .nil, .nil⟩
  | _, _, .cons a r => by
    obtain ⟨y, h1, h2⟩ := h _ _ a
    obtain ⟨ys, h3, h4⟩ := each_out h r
    exact ⟨y :: ys, .cons h1 h3, .cons h2 h4⟩
theorem each_in {S : V → Pr → Prop} {all : List V} : ∀ {xs : List V} {us : List Value} {ps : List Pr}, Vals xs us → EachIs S xs ps → (∀ x ∈ xs, x ∈ all) → EachIs (fun v p => ∃ y, y ∈ all ∧ RelV y v ∧ S y p) us ps
  | _, _, _, .nil, .nil, _ => .nil
  | _, _, _, .cons a r, .cons b r2, h => .cons ⟨_, h _ List.mem_cons_self, a, b⟩ (each_in r r2 fun x hx => h x (List.mem_cons_of_mem _ hx))
theorem vals2 {a b : V} : ∀ {us : List Value}, Vals [a, b] us → ∃ u w, us = [u, w] ∧ RelV a u ∧ RelV b w
  | _, .cons h1 (.cons h2 .nil) => ⟨_, _, rfl, h1, h2⟩
theorem pe_sortP {T : List (Addr × Str)} {e : Expr} {te : TE} {x : Str} {params : Arguments} {q : List Pos} {k : List Nat} {scope : Scope} {lpos kpos p pos : Pos} {c P : Addr} {j : Nat}
    (hc : X.calm = true) (hr : Room j X.A) (he : PE X e te) (hg : Gl X "sorted") (hm : X.mg "sorted" = none) (hml : X.mg "len" = none)
    (TB : LamX.TabB X.base X.mg c P) (hcode : X.env.code = .ref c) (hmT : (P, X.env.qual ++ "<lambda>") ∈ T) (hu : ∀ p ∈ T, p.1 = P → p.2 = X.env.qual ++ "<lambda>")
    (hdef : defaultsOf params X.env = ([], [])) (hclo : cloFrom X.env.cells scope.names [] = []) (hfree : ∀ y ∈ scope.names, y.2 ≠ .free)
    (hbind : ∀ qn pm c' ctv t, bindArgs (PySem.W.kla_fn "<lambda>" qn params (key3E x q k) scope [] pm (.ref c') ctv) ⟨[.ref t], []⟩ = pure [(x, .ref t)])
    (hkind : scope.kind = .function) (hco : scope.isCoroutine = false) (hgen : scope.isGenerator = false) (hcell : ∀ y ∈ scope.names, y.2 ≠ .cell) (hx : scope.names.lookup x = some .local) (hgl : scope.names.lookup ("len" : Str) = some .globalImplicit) (hd : (x == ("__debug__" : Str)) = false)
    (hs : starEach [e] X.env = (false, eval e X.env) :: starEach [] X.env := by rfl) :
    PE X (.Call (.Name "sorted" p) [e] [⟨some "key", .Lambda params (key3E x q k) scope lpos, kpos⟩] pos) (tSortP T X.K te) := by
  refine ⟨fun pins s σ H Q I h => ?_⟩
  refine wpAny_Call_Name_kw (ld_blt I hg hm (by decide +kernel : bootBuiltins "sorted" = some (.builtin "sorted")) ?_)
  refine PyProof.Rows.callWith_kw ?_ (by rw [hs]; rfl) (by rw [hs]; rfl) rfl rfl
  refine thn ((pa_cons he pa_nil hs).run pos pins s σ H (fun vs H1 => match vs with
    | [v] => (∃ (R : V → Pr → Prop) (l : Addr) (xs : List V) (ps : List Pr), v = V.ref l ∧ SqL X.K H1 l xs ∧ EachIs (fun y pr => R y pr ∧ PrV X.K H1 y pr) xs ps ∧ ps.length ≤ sizeLine ∧ LamX.Tabs T H1 ∧
      ∀ H2, LamX.ExtN H1 H2 → LamX.Tabs T H2 → ∀ p ys, H2 p = none → EachIs R ys (ps.mergeSort (dataLe false keyP)) → Q (.ref p) (upd H2 p (.lst ys)))
    | _ => False) I h) fun us s1 ⟨vs, H1, I1, r1, q1⟩ => ?_
  match vs, r1, q1 with
  | [], _, q1 => exact q1.elim
  | _ :: _ :: _, _, q1 => exact q1.elim
  | [v0], r1, q1 =>
    obtain ⟨R, l, xs, ps, e0, hl, hps, hz, tabs, fin⟩ := q1
    subst e0
    rw [Vals.ref1 r1]
    show wpAny _ _ (evalAll ((do let v ← eval (.Lambda params (key3E x q k) scope lpos) X.env; standAt pos; pure v) :: [])) _ _ s1
    refine wpAny_evalAll_cons (wpAny_bind (LamX.lam_make2 I1 TB hcode hmT hu tabs hdef (fun y hy e => absurd e (hfree y hy)) fun f c' pm ctv H2 s2 I2 eN tabs2 hf hfn hfr hcO => ?_))
    refine wpAny_bind (wpAny_standAt (wpAny_pure (wpAny_evalAll_nil ?_)))
    have hl2 : SqL X.K H2 l xs := (sq_ext eN).sql hl
    obtain ⟨its, r, ⟨o, n, ho, hcl, _, hdt⟩, _⟩ := I2.list hl2
    have up : ∀ {y : V} {pr : Pr}, PrV X.K H1 y pr → PrV X.K H2 y pr := fun {y pr} ⟨t, t2, e1, a1, a2, a3⟩ => ⟨t, t2, e1, (sq_ext eN).sqt a1, (sq_ext eN).sqt a2, a3⟩
    have e := (each_in (all := xs) r hps (fun _ h => h)).mono fun v pr (⟨y, m1, m2, m4, m3⟩ : ∃ y, y ∈ xs ∧ RelV y v ∧ R y pr ∧ PrV X.K H1 y pr) => (⟨y, m4, m2, up m3⟩ : ∃ y, R y pr ∧ RelV y v ∧ PrV X.K H2 y pr)
    obtain ⟨mb, b1, b2⟩ := I2.mod.blt
    obtain ⟨⟨oc, ovs, tk0, hoc, hdc, hvc⟩, _, _⟩ := I2.hok c' _ hcO
    have hlenB : mb ("len" : Str) = some (.builtin "len") := (b2 ("len" : Str) (by decide)).trans bt_len
    rw [hclo] at hf
    show wpAny (model X.prog X.w) X.A (call (.builtin "sorted") [.ref l] [(Str.ofString "key", Value.ref f)]) (EP X pins σ Q) X.xe s2
    refine PySem.W.sorted_key_data (s := s2) (f := .ref f) (kw := [(Str.ofString "key", Value.ref f)]) (b := false) keyP ⟨o, ho, hcl, n, hdt⟩ e (PySem.W.AllAlike.of alike_key) (PySem.W.Sortable.tuples fun b => ⟨_, _, rfl⟩) hz (fun b _ => ?_) (PyProof.Rows.ksk_s1 (.ref l) (.ref f)) (fun y => PyProof.Rows.ksk_l1 (.ref y) (.ref f)) (fun y => PyProof.Rows.ksk_t1 f y) (fun v pr hR _ h tk kp => ?_) fun out cc h' tk kp hno hat hlen eo => ?_
    · have := key_depth b
      have := hr.units
      omega
    · obtain ⟨y, _, ry, t, t2, rfl, a1, a2, a3⟩ := hR
      obtain rfl : v = Value.ref t := ry
      obtain ⟨i1, g1, pl1, _⟩ := I2.tuple a1
      obtain ⟨i2, g2, pl2, _⟩ := I2.tuple a2
      obtain ⟨w0, w1, e1, z0, z1⟩ := vals2 g1
      subst e1
      obtain ⟨tk1, e2⟩ := (show ∃ tk, w0 = Value.str pr.1 tk from z0)
      have e3 : w1 = Value.ref t2 := z1
      subst e2 e3
      have kc := key_call3 (prog := X.prog) (w := X.w) (A := X.A.in1.in1) (s := { s2 with heap := h, toks := tk }) (mg := X.mg) (mb := mb) (x := x) (q := q) (k := k) (f := f) (c' := c') (qn := X.env.qual ++ "<lambda>") (params := params) (scope := scope) (pm := pm) (ctv := ctv) (t := t) (t2 := t2) (its := i2.toArray) (v0 := .str pr.1 tk1) (dm := .tuple (pr.2.map .str)) (d0 := .str pr.1)
          (by have := hr.dp; show X.A.depth < recursionLimit; omega) (kp _ _ hf) ⟨c', oc, ovs, tk0, rfl, kp _ _ hoc, hdc, hvc⟩ (hbind (X.env.qual ++ "<lambda>") pm c' ctv t) hkind hco hgen hcell hx hgl hd (I2.nolimit.keeps kp) ((I2.mod.glob.keeps I2.bk).keeps kp) ((b1.keeps I2.bk).keeps kp) hml hlenB
          (pl1.keeps kp) (pl2.keeps kp) (by rw [List.size_toArray, ← g2.length, List.length_map]; exact a3) (by
            obtain ⟨o2, h1, h2, n2, h3⟩ := pl2.keeps kp
            exact Reads.tuple h1 h2 h3 (by rw [List.toList_toArray]; exact reads_strs g2)) (Reads.str _ _)
      have sz : ((i2.toArray.size : Nat) : Int) = ((pr.2.length : Nat) : Int) := by rw [List.size_toArray, ← g2.length, List.length_map]
      rw [sz] at kc
      exact kc
    · obtain ⟨ys, hv1, hv2⟩ := each_out (S := fun y pr => R y pr) (fun v pr ⟨y, m1, m2, m3⟩ => ⟨y, m2, m1⟩) eo
      have hn : H2 (s2.heap.objs.size + 1) = none := I2.hok.fresh (Nat.le_succ _)
      have hzy : ys.length ≤ sizeLine := by rw [hv1.length, hlen]; exact hz
      exact ⟨.ref (s2.heap.objs.size + 1), upd H2 (s2.heap.objs.size + 1) (.lst ys), I2.laid (t' := tk) kp (Nat.le_succ _) ⟨hzy, out, cc, hv1, hat⟩, rfl, fin H2 eN tabs2 _ ys hn hv2⟩
end
end DL

/-! sorted(pairs, key=lambda p: (len(p[1]), p[1], p[0])), as a new list -/
namespace DL
open PySem PySem.Spec PyProof.Rows L2
open PySem.W (EachIs dataLe)
section
variable {c : Cf} {X : Cx} {W : WX} {a : Expr} {f : M D} {pos : Pos}
def dPr (p : Pr) : D := .tuple [.str p.1, .tuple (p.2.map .str)]
def pairOf : D → Option Pr
  | .tuple [.str k, .tuple ms] => match strsOf ms with
    | some ks => if ks.length ≤ 1000 then some (k, ks) else none
    | none => none
  | _ => none
def pairsOf : List D → Option (List Pr)
  | [] => some []
  | d :: r => (pairOf d).bind fun p => (pairsOf r).map (p :: ·)
def sortP : D → Option (List D)
  | .list xs => match pairsOf xs with
    | some ps => if ps.length ≤ sizeLine then some ((ps.mergeSort (dataLe false keyP)).map dPr) else none
    | none => none
  | _ => none
theorem strsOf_back : ∀ {ds : List D} {ks : List Str}, strsOf ds = some ks → ds = ks.map .str
  | [], ks, h => by
    have h : some [] = some ks := h
    cases h
    rfl
  | .str x :: r, ks, h => by
    have h : (strsOf r).map (x :: ·) = some ks := h
    cases e : strsOf r with
    | none => rw [e] at h; cases h
    | some ys =>
      rw [e] at h
      cases h
      rw [strsOf_back e]
      rfl
theorem pairOf_some {d : D} {p : Pr} (h : pairOf d = some p) : d = dPr p ∧ p.2.length ≤ 1000 := by
  unfold pairOf at h
  split at h
  · rename_i k ms
    split at h
    · rename_i ks e
      split at h
      · rename_i hz
        cases h
        exact ⟨by rw [strsOf_back e]; rfl, hz⟩
      · cases h
    · cases h
  · cases h
theorem prV_of {K : PySem.W.Frag} {G : Hp} {v : V} {p : Pr} (h : Dp K G v (dPr p)) (hz : p.2.length ≤ 1000) : PrV K G v p := by
  obtain ⟨t, xs, rfl, q, r⟩ := dp_tup h
  cases r with
  | cons r1 r =>
    cases r with
    | cons r2 r =>
      cases r with
      | nil =>
        obtain ⟨t2, ys, rfl, q2, r3⟩ := dp_tup r2
        rw [dp_str r1] at q
        rw [strsOf_ok (strsOf_map p.2) r3] at q2
        exact ⟨t, t2, rfl, q, q2, hz⟩
theorem PrV.sub {K : PySem.W.Frag} {G G' : Hp} (e : Sub G G') {v : V} {p : Pr} (h : PrV K G v p) : PrV K G' v p := by
  obtain ⟨t, t2, e1, a1, a2, a3⟩ := h
  exact ⟨t, t2, e1, e.sqt a1, e.sqt a2, a3⟩
theorem pairs_each {K : PySem.W.Frag} {G H : Hp} (e : Sub G H) : ∀ {ds : List D} {ps : List Pr} {vs : List V}, pairsOf ds = some ps → DpAll K G vs ds → EachIs (fun y pr => Dp K G y (dPr pr) ∧ PrV K H y pr) vs ps
  | [], ps, vs, h, q => by
    have h : some [] = some ps := h
    cases h
    cases q
    exact .nil
  | d :: r, ps, vs, h, q => by
    have h : ((pairOf d).bind fun p => (pairsOf r).map (p :: ·)) = some ps := h
    cases z : pairOf d with
    | none => rw [z] at h; cases h
    | some p =>
      rw [z] at h
      have h : (pairsOf r).map (p :: ·) = some ps := h
      cases z2 : pairsOf r with
      | none => rw [z2] at h; cases h
      | some pr =>
        rw [z2] at h
        cases h
        cases q with
        | cons q1 q2 =>
          obtain ⟨hd, hz⟩ := pairOf_some z
          rw [hd] at q1
          exact .cons ⟨q1, (prV_of q1 hz).sub e⟩ (pairs_each e z2 q2)
theorem each_dpa {K : PySem.W.Frag} {G G' : Hp} (e : Sub G G') : ∀ {ys : List V} {ps : List Pr}, EachIs (fun y pr => Dp K G y (dPr pr)) ys ps → DpAll K G' ys (ps.map dPr)
  | _, _, .nil => .nil
  | _, _, .cons h r => .cons (e.dp h) (each_dpa e r)
def namesT (T : List (Addr × Option Str)) : List (Addr × Str) := T.filterMap fun p => p.2.map fun q => (p.1, q)
theorem tabs_of {T : List (Addr × Option Str)} {H : Hp} (t : Tbs T H) : LamX.Tabs (namesT T) H := fun p hp => by
  obtain ⟨P, hP, e⟩ := List.mem_filterMap.mp hp
  obtain ⟨a, q⟩ := P
  cases q with
  | none => cases e
  | some q =>
    cases e
    obtain ⟨ps, h1, h2, h3⟩ := t _ hP
    exact ⟨ps, h1, h2, h3 q rfl⟩
theorem tbs_back {T : List (Addr × Option Str)} {H : Hp} (hT : ∀ p ∈ T, p.2 ≠ none) (t : LamX.Tabs (namesT T) H) : Tbs T H := fun P hP => by
  obtain ⟨a, q⟩ := P
  cases q with
  | none => exact absurd rfl (hT _ hP)
  | some q =>
    obtain ⟨ps, h1, h2, h3⟩ := t (a, q) (List.mem_filterMap.mpr ⟨_, hP, rfl⟩)
    exact ⟨ps, h1, h2, fun q' hq => by cases hq; exact h3⟩
/-- a table of lambdas of this name, beside others of that kind -/
def LmIn (T : List (Addr × Option Str)) (P : Addr) (q : Str) : Prop := (P, some q) ∈ T ∧ (∀ p ∈ T, p.1 = P → p.2 = some q) ∧ ∀ p ∈ T, p.2 ≠ none
def ext3 : Expr → Str × List Pos × List Nat
  | .Tuple [.Call (.Name _ q0) [.Subscript (.Name x q1) (.Constant _ k0 q2) q3] _ q4, .Subscript (.Name _ q5) (.Constant _ k1 q6) q7, .Subscript (.Name _ q8) (.Constant _ k2 q9) q10] k3 q11 => (x, [q0, q1, q2, q3, q4, q5, q6, q7, q8, q9, q10, q11], [k0, k1, k2, k3])
  | _ => ("", [], [])
theorem f_sortP0 {e : Expr} {x : Str} {params : Arguments} {q : List Pos} {k : List Nat} {scope : Scope} {lpos kpos p pos : Pos} {cc P : Addr} {j : Nat}
    (hr : Room j X.A) (hm : X.mg "sorted" = none) (hml : X.mg "len" = none) (hP : LmIn c.T P (X.env.qual ++ "<lambda>")) (TB : LamX.TabB X.base X.mg cc P) (hcode : X.env.code = .ref cc) (he : DE c X W e f)
    (hc : X.calm = true) (hK : c.K = X.K) (hg : Gl X "sorted")
    (hdef : defaultsOf params X.env = ([], [])) (hclo : cloFrom X.env.cells scope.names [] = []) (hfree : ∀ y ∈ scope.names, y.2 ≠ .free)
    (hbind : ∀ qn pm c' ctv t, bindArgs (PySem.W.kla_fn "<lambda>" qn params (key3E x q k) scope [] pm (.ref c') ctv) ⟨[.ref t], []⟩ = pure [(x, .ref t)])
    (hkind : scope.kind = .function) (hco : scope.isCoroutine = false) (hgen : scope.isGenerator = false) (hcell : ∀ y ∈ scope.names, y.2 ≠ .cell)
    (hx : scope.names.lookup x = some .local) (hgl : scope.names.lookup ("len" : Str) = some .globalImplicit) (hd : (x == ("__debug__" : Str)) = false)
    (hs : starEach [e] X.env = (false, eval e X.env) :: starEach [] X.env) :
    DF c X W (.Call (.Name "sorted" p) [e] [⟨some "key", .Lambda params (key3E x q k) scope lpos, kpos⟩] pos) (mMap f sortP) := by
  obtain ⟨te, pe, se⟩ := he
  refine ⟨_, pe_sortP (T := namesT c.T) hc hr pe hg hm hml TB hcode (List.mem_filterMap.mpr ⟨_, hP.1, rfl⟩) (fun p hp e => ?_) hdef hclo hfree hbind hkind hco hgen hcell hx hgl hd hs, ?_⟩
  · obtain ⟨P', hP', e'⟩ := List.mem_filterMap.mp hp
    obtain ⟨a', q'⟩ := P'
    cases q' with
    | none => cases e'
    | some q' =>
      cases e'
      exact Option.some.inj (hP.2.1 _ hP' e)
  · intro O A σ H s r Q w
    refine se O A σ H s r _ (Wp.mono (Wp.bind w) ?_)
    intro d s1 H1 _ f1 r1 w1 v q
    cases d with
    | list xs =>
      have w1 : Wp c W O A σ H1 (lift (match pairsOf xs with | some ps => if ps.length ≤ sizeLine then some ((ps.mergeSort (dataLe false keyP)).map dPr) else none | none => none) s1) (fun ds _ H' => ∀ p vs, H' p = none → DpAll c.K (cut O H') vs ds → Q (.ref p) (upd H' p (.lst vs))) := w1
      cases z : pairsOf xs with
      | none => rw [z] at w1; exact w1.elim
      | some ps =>
        rw [z] at w1
        have w1 : Wp c W O A σ H1 (lift (if ps.length ≤ sizeLine then some ((ps.mergeSort (dataLe false keyP)).map dPr) else none) s1) (fun ds _ H' => ∀ p vs, H' p = none → DpAll c.K (cut O H') vs ds → Q (.ref p) (upd H' p (.lst vs))) := w1
        by_cases hz : ps.length ≤ sizeLine
        · rw [if_pos hz] at w1
          obtain ⟨l, vs, rfl, h1, h2⟩ := dp_list q
          refine ⟨fun y pr => Dp c.K (cut O H1) y (dPr pr), l, vs, ps, rfl, hK ▸ (Sub.cut O H1).sql h1, hK ▸ pairs_each (Sub.cut O H1) z h2, hz, tabs_of r1.tb, fun H2 eN t2 p ys hp hy => ?_⟩
          have gr : Grow c H1 H2 := ⟨sq_ext eN, fun _ => tbs_back hP.2.2 t2⟩
          exact w1 H2 (gr.stp A) (r1.grow gr) p ys hp (each_dpa (gr.cut O) hy)
        · rw [if_neg hz] at w1
          exact w1.elim
    | none => exact w1.elim
    | bool _ => exact w1.elim
    | int _ => exact w1.elim
    | str _ => exact w1.elim
    | tuple _ => exact w1.elim
    | dict _ => exact w1.elim
theorem f_sortP {e body : Expr} {params : Arguments} {scope : Scope} {lpos kpos p pos : Pos} {cc P : Addr} {j : Nat} {ln : Str}
    (hr : Room j X.A) (hm : X.mg "sorted" = none) (hml : X.mg "len" = none) (hP : LmIn c.T P ln) (TB : LamX.TabB X.base X.mg cc P) (hcode : X.env.code = .ref cc) (he : DE c X W e f) (hln : ln = X.env.qual ++ "<lambda>" := by decide +kernel)
    (hc : X.calm = true := by rfl) (hK : c.K = X.K := by rfl) (hg : Gl X "sorted" := by rfl)
    (hdef : defaultsOf params X.env = ([], []) := by rfl) (hclo : cloFrom X.env.cells scope.names [] = [] := by rfl) (hfree : ∀ y ∈ scope.names, y.2 ≠ .free := by decide +kernel)
    (hb : body = key3E (ext3 body).1 (ext3 body).2.1 (ext3 body).2.2 := by rfl)
    (hbind : ∀ qn pm c' ctv t, bindArgs (PySem.W.kla_fn "<lambda>" qn params body scope [] pm (.ref c') ctv) ⟨[.ref t], []⟩ = pure [((ext3 body).1, .ref t)] := by intro _ _ _ _ _; rfl)
    (hkind : scope.kind = .function := by rfl) (hco : scope.isCoroutine = false := by rfl) (hgen : scope.isGenerator = false := by rfl) (hcell : ∀ y ∈ scope.names, y.2 ≠ .cell := by decide +kernel)
    (hx : scope.names.lookup (ext3 body).1 = some .local := by rfl) (hgl : scope.names.lookup ("len" : Str) = some .globalImplicit := by rfl) (hd : ((ext3 body).1 == ("__debug__" : Str)) = false := by rfl)
    (hs : starEach [e] X.env = (false, eval e X.env) :: starEach [] X.env := by rfl) :
    DF c X W (.Call (.Name "sorted" p) [e] [⟨some "key", .Lambda params body scope lpos, kpos⟩] pos) (mMap f sortP) := by
  subst hln
  generalize ext3 body = z at *
  subst hb
  exact f_sortP0 hr hm hml hP TB hcode he hc hK hg hdef hclo hfree hbind hkind hco hgen hcell hx hgl hd hs
end
section
variable {c : Cf} {X : Cx} {W : WX} {fs : M (List D)} {pos : Pos}
/-- name = [.. for .. for ..] on one line -/
theorem s_setLc2 (i : Nat) {y : Str} {py spos : Pos} {elt tg iter tg1 iter1 : Expr} {scope : Scope} {own : List (Str × Nat)} {vs0 vs1 : List Nat} {t t1 : Tg} {fi1 : M (List D)} {fe : M D} (hN : X.N.Nodup) (ok : BlkOk X.N X.env.scope scope own) (hi : DI c X W tg iter fs) (hg : BlkG c X scope tg vs0 t) (hi1 : BlkI c X scope tg1 iter1 fi1) (hg1 : BlkG c X scope tg1 vs1 t1) (he : BlkE c X scope elt fe)
    (hsw : swapsWith (.ListComp elt [⟨tg, iter, [], 0⟩, ⟨tg1, iter1, [], 0⟩] scope pos) (some (.Name y py)) spos.line X.env = pure true := by exact sw_true rfl rfl rfl (by decide +kernel))
    (hy : X.N[i]? = some y := by rfl) (hyl : X.env.scope.names.lookup y = some .local := by rfl)
    (hs0 : ∀ i ∈ vs0, i ∈ own.map (·.2) := by exact of_decide_eq_true rfl) (hs1 : ∀ i ∈ vs1, i ∈ own.map (·.2) := by exact of_decide_eq_true rfl) (hv : ∀ v ∈ own.map (·.2), c.np ≤ v := by exact of_decide_eq_true rfl) (hc : X.calm = true := by rfl) (hs : ∀ x, foldedSetIterable iter X.env x = pure x := by intro _; rfl) (hs2 : ∀ env x, foldedSetIterable iter1 env x = pure x := by intro _ _; rfl) :
    DS c X W (.Assign [.Name y py] (.ListComp elt [⟨tg, iter, [], 0⟩, ⟨tg1, iter1, [], 0⟩] scope pos) spos) (sAsg (mL (mLc2 (own.map (·.2)) vs1 fs t fi1 t1 fe)) (tName i)) := by
  obtain ⟨wi, pi, si⟩ := hi
  exact ⟨_, ps_setLc2 hc hN hy hyl hsw pi ok hs1 (fun s H C cl fp => dg_best (dg_weak (hg s H C cl fp) hs0)) (fun s H C cl fp => dts_nil) (fun s H C cl fp => di_best (hi1 s H C cl fp)) (fun s H C cl fp => dg_best (hg1 s H C cl fp)) (fun s H C cl fp => dts_nil) (fun s H C cl fp => de_best (he s H C cl fp)) hs hs2, sem_set i (sem_ofF (sem_lc2 hv hs1 si))⟩
end
end DL

namespace DL
open PySem PySem.Spec L2
def top (i : Nat) : Stmt := PySem.Challenge.pw_treegarb_k04_letters_and_walks.main.body.getD i (.Pass ⟨0, 0, 0, 0⟩)
def exm_TooMany : Str → Option Bool := fun y => if y = "TooMany" then some true else none
structure Fa (K : PySem.W.Frag) (w : World) (mg : Str → Option Value) (ca : Str → Addr) : Prop where
  b_abs : mg "abs" = none
  b_int : mg "int" = none
  b_isinstance : mg "isinstance" = none
  b_len : mg "len" = none
  b_list : mg "list" = none
  b_range : mg "range" = none
  b_sorted : mg "sorted" = none
  b_tuple : mg "tuple" = none
  k_MOST_KINDS : ∃ t : Tok, mg "MOST_KINDS" = some (.int 5 t)
  k_MOST_MARKS : ∃ t : Tok, mg "MOST_MARKS" = some (.int 4 t)
  x_TooMany : ExcT K mg "TooMany" (ca "TooMany")
  h_TooMany : ∀ y b, exm_TooMany y = some b → PySem.W.exmOne K (.ref (ca y)) (.ref (ca "TooMany")) = some b
section
variable {P : Program} {w : World} {K : PySem.W.Frag} {mg : Str → Option Value} {base : Heap} {T : List (Addr × Option Str)} {ca : Str → Addr}
/-! ### all_parts -/
abbrev s_all_parts : Stmt := top 6
abbrev N_all_parts : List Str := ["first", "second", "selector", "part"]
theorem sc_all_parts : FnScope N_all_parts ["first", "second"] (defScope s_all_parts) := ⟨rfl, rfl, rfl, by decide +kernel, rfl, by decide +kernel, by decide +kernel⟩
def g_all_parts : G := (sRet (mL (mLc2 [2, 3] [3] (mMap (mMap2 (mVar 0) (mVar 1) addD) items) (tName 2) (mMap (mMap2 (mVar 2) (mC (.int 0)) ixD) items) (tName 3) (mVar 3))))
def F_all_parts : FnM := run 4 g_all_parts
theorem ok_all_parts (E : Fa K w mg ca) (G_all_parts : Gv K mg "all_parts" s_all_parts ["first", "second"]) : FnOk P w K mg base (L2.CX P w) 1 G_all_parts.f G_all_parts.fd ["first", "second"] (spF K T ca 2 F_all_parts) := by
  refine fn_ok G_all_parts.fn sc_all_parts rfl rfl (by decide) fun pin O0 H0 cdv A outer s H Ex hr => ?_
  exact (s_one (s_ret (d_of (f_lc2 (own := [("selector", 2), ("part", 3)]) (vs0 := [2]) (vs1 := [3]) sc_all_parts.nd (blkOk_by (N := N_all_parts) (sc := defScope s_all_parts) (by decide +kernel)) (di_seq (d_bin op_addA (o_add rfl).op (dv 0) (dv 1))) (fun _ _ _ _ _ => (dg_name 2 sc_all_parts.nd)) (fun _ _ _ _ _ => (di_seq (d_ix ix_seq (o_ix rfl) (dv 2) d_int))) (fun _ _ _ _ _ => (dg_name 3 sc_all_parts.nd)) (fun _ _ _ _ _ => (dv 3))))))
/-! ### used_kinds -/
abbrev s_used_kinds : Stmt := top 7
abbrev N_used_kinds : List Str := ["first", "second", "kinds", "part", "what", "name"]
theorem sc_used_kinds : FnScope N_used_kinds ["first", "second"] (defScope s_used_kinds) := ⟨rfl, rfl, rfl, by decide +kernel, rfl, by decide +kernel, by decide +kernel⟩
def b_used_kinds_1 : G := (sIf (mT (mMap2 (mVar 4) (mC (.str "kind")) eqD)) (sPutK 2 (mVar 5) (mC (.bool true))) sNext)
def b_used_kinds_2 : G := (sSeq (sIf (mT (mMap2 (mMap2 (mVar 3) (mC (.int 0)) ixD) (mC .none) notNone)) (sPutK 2 (mMap2 (mVar 3) (mC (.int 0)) ixD) (mC (.bool true))) sNext) (sFor (mMap (mMap2 (mVar 3) (mC (.int 2)) ixD) items) (tTupG 2 (tsCons (tName 4) (tsCons (tName 5) tsNil))) b_used_kinds_1))
def g_used_kinds : G := (sSeq (sNewK 2) (sSeq (sFor (mMap (mCall 2 F_all_parts (mCons (mVar 0) (mCons (mVar 1) mNil))) items) (tName 3) b_used_kinds_2) (sRet (mL (mSortK 2)))))
def F_used_kinds : FnM := run 6 g_used_kinds
theorem ok_used_kinds (E : Fa K w mg ca) (G_used_kinds : Gv K mg "used_kinds" s_used_kinds ["first", "second"]) (G_all_parts : Gv K mg "all_parts" s_all_parts ["first", "second"]) (P_all_parts : FnOk P w K mg base (L2.CX P w) 1 G_all_parts.f G_all_parts.fd ["first", "second"] (spF K T ca 2 F_all_parts)) : FnOk P w K mg base (L2.CX P w) 2 G_used_kinds.f G_used_kinds.fd ["first", "second"] (spF K T ca 2 F_used_kinds) := by
  refine fn_ok G_used_kinds.fn sc_used_kinds rfl rfl (by decide) fun pin O0 H0 cdv A outer s H Ex hr => ?_
  exact (s_cons (s_newK 2 sc_used_kinds.nd) (s_cons (s_for (passes_of rfl) (di_seq (d_c G_all_parts P_all_parts (hr.mono (by omega)) (takes_of rfl rfl rfl rfl) (da_cons (dv 0) (da_cons (dv 1) da_nil)))) (dg_name 3 sc_used_kinds.nd) (s_cons (s_if (t_cmp op_notN o_notN (d_ix ix_seq (o_ix rfl) (dv 3) d_int) d_non) (s_one (s_putK 2 (hu_of hr) (d_ix ix_seq (o_ix rfl) (dv 3) d_int) d_bl)) s_nil) (s_one (s_for (passes_of rfl) (di_seq (d_ix ix_seq (o_ix rfl) (dv 3) d_int)) (dg_tup (dgs_cons (dg_name 4 sc_used_kinds.nd) (dgs_cons (dg_name 5 sc_used_kinds.nd) dgs_nil))) (s_one (s_if (t_cmp (op_eqA hr) (o_eq rfl).op (dv 4) d_str) (s_one (s_putK 2 (hu_of hr) (dv 5) d_bl)) s_nil)))))) (s_one (s_ret (d_of (f_sortK 2 (hu3 hr) E.b_sorted))))))
/-! ### used_marks -/
abbrev s_used_marks : Stmt := top 8
abbrev N_used_marks : List Str := ["first", "second", "marks", "part", "name", "what"]
theorem sc_used_marks : FnScope N_used_marks ["first", "second"] (defScope s_used_marks) := ⟨rfl, rfl, rfl, by decide +kernel, rfl, by decide +kernel, by decide +kernel⟩
def b_used_marks_1 : G := (sPutK 2 (mVar 4) (mC (.bool true)))
def b_used_marks_2 : G := (sIf (mT (mMap2 (mVar 5) (mC (.str "mark")) eqD)) (sPutK 2 (mVar 4) (mC (.bool true))) sNext)
def b_used_marks_3 : G := (sSeq (sFor (mMap (mMap2 (mVar 3) (mC (.int 1)) ixD) items) (tName 4) b_used_marks_1) (sFor (mMap (mMap2 (mVar 3) (mC (.int 2)) ixD) items) (tTupG 2 (tsCons (tName 5) (tsCons (tName 4) tsNil))) b_used_marks_2))
def g_used_marks : G := (sSeq (sNewK 2) (sSeq (sFor (mMap (mCall 2 F_all_parts (mCons (mVar 0) (mCons (mVar 1) mNil))) items) (tName 3) b_used_marks_3) (sRet (mL (mSortK 2)))))
def F_used_marks : FnM := run 6 g_used_marks
theorem ok_used_marks (E : Fa K w mg ca) (G_used_marks : Gv K mg "used_marks" s_used_marks ["first", "second"]) (G_all_parts : Gv K mg "all_parts" s_all_parts ["first", "second"]) (P_all_parts : FnOk P w K mg base (L2.CX P w) 1 G_all_parts.f G_all_parts.fd ["first", "second"] (spF K T ca 2 F_all_parts)) : FnOk P w K mg base (L2.CX P w) 2 G_used_marks.f G_used_marks.fd ["first", "second"] (spF K T ca 2 F_used_marks) := by
  refine fn_ok G_used_marks.fn sc_used_marks rfl rfl (by decide) fun pin O0 H0 cdv A outer s H Ex hr => ?_
  exact (s_cons (s_newK 2 sc_used_marks.nd) (s_cons (s_for (passes_of rfl) (di_seq (d_c G_all_parts P_all_parts (hr.mono (by omega)) (takes_of rfl rfl rfl rfl) (da_cons (dv 0) (da_cons (dv 1) da_nil)))) (dg_name 3 sc_used_marks.nd) (s_cons (s_for (passes_of rfl) (di_seq (d_ix ix_seq (o_ix rfl) (dv 3) d_int)) (dg_name 4 sc_used_marks.nd) (s_one (s_putK 2 (hu_of hr) (dv 4) d_bl))) (s_one (s_for (passes_of rfl) (di_seq (d_ix ix_seq (o_ix rfl) (dv 3) d_int)) (dg_tup (dgs_cons (dg_name 5 sc_used_marks.nd) (dgs_cons (dg_name 4 sc_used_marks.nd) dgs_nil))) (s_one (s_if (t_cmp (op_eqA hr) (o_eq rfl).op (dv 5) d_str) (s_one (s_putK 2 (hu_of hr) (dv 4) d_bl)) s_nil)))))) (s_one (s_ret (d_of (f_sortK 2 (hu3 hr) E.b_sorted))))))
/-! ### subsets -/
abbrev s_subsets : Stmt := top 9
abbrev N_subsets : List Str := ["names", "found", "name", "row"]
theorem sc_subsets : FnScope N_subsets ["names"] (defScope s_subsets) := ⟨rfl, rfl, rfl, by decide +kernel, rfl, by decide +kernel, by decide +kernel⟩
def e_subsets_1 : M D := (mMap2 (mVar 3) (mMap (mCons (mVar 2) mNil) mkT) addD)
def b_subsets_2 : G := (sAsg (mMap2 (mVar 1) (mL (mLc [3] (mMap (mVar 1) items) (tName 3) mYes e_subsets_1)) addD) (tName 1))
def g_subsets : G := (sSeq (sAsg (mMap (mCons (mMap mNil mkT) mNil) mkL) (tName 1)) (sSeq (sFor (mMap (mVar 0) items) (tName 2) b_subsets_2) (sRet (mVar 1))))
def F_subsets : FnM := run 4 g_subsets
theorem ok_subsets (E : Fa K w mg ca) (G_subsets : Gv K mg "subsets" s_subsets ["names"]) : FnOk P w K mg base (L2.CX P w) 1 G_subsets.f G_subsets.fd ["names"] (spF K T ca 1 F_subsets) := by
  refine fn_ok G_subsets.fn sc_subsets rfl rfl (by decide) fun pin O0 H0 cdv A outer s H Ex hr => ?_
  exact (s_cons (s_set 1 sc_subsets.nd (d_lst (da_cons (d_tup da_nil) da_nil))) (s_cons (s_for (passes_of rfl) (di_seq (dv 0)) (dg_name 2 sc_subsets.nd) (s_one (s_set 1 sc_subsets.nd (d_bin op_addA (o_add rfl).op (dv 1) (d_of (f_lc (own := [("row", 3)]) sc_subsets.nd (blkOk_by (N := N_subsets) (sc := defScope s_subsets) (by decide +kernel)) (di_seq (dv 1)) (fun _ _ _ _ _ => (dg_name 3 sc_subsets.nd)) (fun _ _ _ _ _ => dts_nil) (fun _ _ _ _ _ => (d_bin op_addA (o_add rfl).op (dv 3) (d_tup (da_cons (dv 2) da_nil)))))))))) (s_one (s_ret (dv 1)))))
/-! ### letters -/
abbrev s_letters : Stmt := top 10
abbrev N_letters : List Str := ["first", "second", "kinds", "marks", "other", "pairs", "kind", "row"]
theorem sc_letters : FnScope N_letters ["first", "second"] (defScope s_letters) := ⟨rfl, rfl, rfl, by decide +kernel, rfl, by decide +kernel, by decide +kernel⟩
def b_letters_1 : G := (sAug 4 (mC (.str "z")) addS)
def e_letters_2 : M D := (mMap (mCons (mVar 6) (mCons (mVar 7) mNil)) mkT)
def g_letters : G := (sSeq (sAsg (mMap (mCons (mCall 2 F_used_kinds (mCons (mVar 0) (mCons (mVar 1) mNil))) (mCons (mCall 2 F_used_marks (mCons (mVar 0) (mCons (mVar 1) mNil))) mNil)) mkT) (tTupG 2 (tsCons (tName 2) (tsCons (tName 3) tsNil)))) (sSeq (sIf (mOr (mT (mMap2 (mMap (mCons (mVar 2) mNil) lenD) (mC (.int 5)) gtD)) (mT (mMap2 (mMap (mCons (mVar 3) mNil) lenD) (mC (.int 4)) gtD))) (sRaise "TooMany") sNext) (sSeq (sAsg (mC (.str "z")) (tName 4)) (sSeq (sWhile 1 (mT (mMap2 (mVar 4) (mVar 2) inD)) b_letters_1) (sSeq (sAsg (mL (mLc2 [6, 7] [7] (mMap (mMap2 (mVar 2) (mMap (mCons (mVar 4) mNil) mkL) addD) items) (tName 6) (mMap (mCall 1 F_subsets (mCons (mVar 3) mNil)) items) (tName 7) e_letters_2)) (tName 5)) (sRet (mL (mMap (mVar 5) sortP))))))))
def F_letters : FnM := run 8 g_letters
theorem ok_letters (E : Fa K w mg ca) (G_letters : Gt K mg "letters" s_letters ["first", "second"]) (hPT : LmIn T G_letters.PT "letters.<locals>.<lambda>") (TB : LamX.TabB base mg G_letters.cc G_letters.PT) (G_subsets : Gv K mg "subsets" s_subsets ["names"]) (P_subsets : FnOk P w K mg base (L2.CX P w) 1 G_subsets.f G_subsets.fd ["names"] (spF K T ca 1 F_subsets)) (G_used_kinds : Gv K mg "used_kinds" s_used_kinds ["first", "second"]) (P_used_kinds : FnOk P w K mg base (L2.CX P w) 2 G_used_kinds.f G_used_kinds.fd ["first", "second"] (spF K T ca 2 F_used_kinds)) (G_used_marks : Gv K mg "used_marks" s_used_marks ["first", "second"]) (P_used_marks : FnOk P w K mg base (L2.CX P w) 2 G_used_marks.f G_used_marks.fd ["first", "second"] (spF K T ca 2 F_used_marks)) : FnOk P w K mg base (L2.CX P w) 3 G_letters.f G_letters.fd ["first", "second"] (spF K T ca 2 F_letters) := by
  refine fn_okC G_letters.fc sc_letters rfl rfl (by decide) fun pin O0 H0 A outer s H Ex hr => ?_
  exact (s_cons (s_asg (d_tup (da_cons (d_c G_used_kinds P_used_kinds (hr.mono (by omega)) (takes_of rfl rfl rfl rfl) (da_cons (dv 0) (da_cons (dv 1) da_nil))) (da_cons (d_c G_used_marks P_used_marks (hr.mono (by omega)) (takes_of rfl rfl rfl rfl) (da_cons (dv 0) (da_cons (dv 1) da_nil))) da_nil))) (dg_tup (dgs_cons (dg_name 2 sc_letters.nd) (dgs_cons (dg_name 3 sc_letters.nd) dgs_nil)))) (s_cons (s_if (t_bo (w_or (t_cmp op_gtA o_gt.op (d_callB call_len ((o_len rfl).op fun _ _ => one_len) E.b_len bt_len (da_cons (dv 2) da_nil)) (d_globI (E.k_MOST_KINDS).choose_spec)) (w_or1 (t_cmp op_gtA o_gt.op (d_callB call_len ((o_len rfl).op fun _ _ => one_len) E.b_len bt_len (da_cons (dv 3) da_nil)) (d_globI (E.k_MOST_MARKS).choose_spec))))) (s_one (s_raise E.x_TooMany (takes_of rfl rfl rfl rfl))) s_nil) (s_cons (s_set 4 sc_letters.nd d_str) (s_cons (s_while 1 (passes_of rfl) (t_cmp op_in_seq (o_in rfl).op (dv 4) (dv 2)) (s_one (s_aug 4 sc_letters.nd iop_add_str o_addS d_str))) (s_cons (s_setLc2 5 (own := [("kind", 6), ("row", 7)]) (vs0 := [6]) (vs1 := [7]) sc_letters.nd (blkOk_by (N := N_letters) (sc := defScope s_letters) (by decide +kernel)) (di_seq (d_bin op_addA (o_add rfl).op (dv 2) (d_lst (da_cons (dv 4) da_nil)))) (fun _ _ _ _ _ => (dg_name 6 sc_letters.nd)) (fun _ _ _ _ _ => (di_seq (d_c G_subsets P_subsets (hr.mono (by omega)) takes_no (da_cons (dv 3) da_nil)))) (fun _ _ _ _ _ => (dg_name 7 sc_letters.nd)) (fun _ _ _ _ _ => (d_tup (da_cons (dv 6) (da_cons (dv 7) da_nil))))) (s_one (s_ret (d_of (f_sortP (hln := (by decide +kernel : ("letters.<locals>.<lambda>" : Str) = "letters.<locals>." ++ "<lambda>")) hr E.b_sorted E.b_len hPT TB rfl (dv 5))))))))))
/-! ### grown -/
abbrev s_grown : Stmt := top 12
abbrev N_grown : List Str := ["walk", "at", "kind", "marks", "children", "place", "start", "end", "k", "last", "below"]
theorem sc_grown : FnScope N_grown ["walk", "at"] (defScope s_grown) := ⟨rfl, rfl, rfl, by decide +kernel, rfl, by decide +kernel, by decide +kernel⟩
def b_grown_1 : G := (sAug 7 (mC (.int 1)) addI)
def b_grown_2 : G := (sApp 4 (mMap (mCons (mMap2 (mMap2 (mMap2 (mVar 0) (mVar 8) ixD) (mC (.int 1)) ixD) (mC (.int 0)) ixD) (mCons (mMap2 (mMap2 (mMap2 (mVar 0) (mVar 8) ixD) (mC (.int 1)) ixD) (mC (.int 1)) ixD) (mCons (mMap mNil mkT) mNil))) mkT))
def g_grown (F : FnM) : G := (sSeq (sAsg (mMap2 (mMap2 (mVar 0) (mVar 1) ixD) (mC (.int 1)) ixD) (tTupG 2 (tsCons (tName 2) (tsCons (tName 3) tsNil)))) (sSeq (sOwn 4 (mMap mNil sized)) (sSeq (sAsg (mMap mNil mkT) (tName 5)) (sSeq (sAsg (mMap2 (mVar 1) (mC (.int 1)) addD) (tName 6)) (sSeq (sIf (mAnd (mT (mMap2 (mVar 6) (mMap (mCons (mVar 0) mNil) lenD) ltD)) (mT (mMap2 (mMap2 (mMap2 (mVar 0) (mVar 6) ixD) (mC (.int 0)) ixD) (mC (.str "down")) eqD))) (sSeq (sAsg (mMap2 (mVar 6) (mC (.int 1)) addD) (tName 7)) (sSeq (sWhile 11 (mAnd (mT (mMap2 (mVar 7) (mMap (mCons (mVar 0) mNil) lenD) ltD)) (mT (mMap2 (mMap2 (mMap2 (mVar 0) (mVar 7) ixD) (mC (.int 0)) ixD) (mC (.str "right")) eqD))) b_grown_1) (sSeq (sFor (mMap (mCons (mVar 6) (mCons (mMap2 (mVar 7) (mC (.int 1)) subD) mNil)) rng2) (tName 8) b_grown_2) (sSeq (sAsg (mCall 2 F (mCons (mVar 0) (mCons (mMap2 (mVar 7) (mC (.int 1)) subD) mNil))) (tTupG 2 (tsCons (tName 9) (tsCons (tName 10) tsNil)))) (sSeq (sAsg (mMap2 (mMap (mCons (mOwn1 4 lenD) mNil) mkT) (mVar 10) addD) (tName 5)) (sApp 4 (mVar 9))))))) sNext) (sRet (mMap (mCons (mMap (mCons (mVar 2) (mCons (mVar 3) (mCons (mOwn1 4 tupD) mNil))) mkT) (mCons (mVar 5) mNil)) mkT)))))))
def F_grown : Nat → FnM
  | 0 => fun _ => .bad
  | k + 1 => run 11 (g_grown (F_grown k))
theorem ok_grown (E : Fa K w mg ca) (G_grown : Gv K mg "grown" s_grown ["walk", "at"]) : ∀ n : Nat, FnOk P w K mg base (L2.CX P w) (0 + n) G_grown.f G_grown.fd ["walk", "at"] (spF K T ca 2 (F_grown n))
  | 0 => fn_bad rfl
  | n + 1 => by
    have ih := ok_grown E G_grown n
    refine fn_ok (g := g_grown (F_grown n)) G_grown.fn sc_grown rfl rfl (by decide) fun pin O0 H0 cdv A outer s H Ex hr => ?_
    have hr : Room (0 + n) _ := hr
    exact (s_cons (s_asg (d_ix ix_seq (o_ix rfl) (d_ix ix_seq (o_ix rfl) (dv 0) (dv 1)) d_int) (dg_tup (dgs_cons (dg_name 2 sc_grown.nd) (dgs_cons (dg_name 3 sc_grown.nd) dgs_nil)))) (s_cons (s_own 4 sc_grown.nd (f_lst da_nil)) (s_cons (s_set 5 sc_grown.nd (d_tup da_nil)) (s_cons (s_set 6 sc_grown.nd (d_bin op_addA (o_add rfl).op (dv 1) d_int)) (s_cons (s_if (t_bo (w_and (t_cmp op_ltA o_lt.op (dv 6) (d_callB call_len ((o_len rfl).op fun _ _ => one_len) E.b_len bt_len (da_cons (dv 0) da_nil))) (w_and1 (t_cmp (op_eqA hr) (o_eq rfl).op (d_ix ix_seq (o_ix rfl) (d_ix ix_seq (o_ix rfl) (dv 0) (dv 6)) d_int) d_str)))) (s_cons (s_set 7 sc_grown.nd (d_bin op_addA (o_add rfl).op (dv 6) d_int)) (s_cons (s_while 11 (passes_of rfl) (t_bo (w_and (t_cmp op_ltA o_lt.op (dv 7) (d_callB call_len ((o_len rfl).op fun _ _ => one_len) E.b_len bt_len (da_cons (dv 0) da_nil))) (w_and1 (t_cmp (op_eqA hr) (o_eq rfl).op (d_ix ix_seq (o_ix rfl) (d_ix ix_seq (o_ix rfl) (dv 0) (dv 7)) d_int) d_str)))) (s_one (s_aug 7 sc_grown.nd iop_add o_addI.op d_int))) (s_cons (s_for (passes_of rfl) (di_range2 E.b_range (da_cons (dv 6) (da_cons (d_bin op_sub o_sub.op (dv 7) d_int) da_nil))) (dg_name 8 sc_grown.nd) (s_one (s_app 4 rfl (d_tup (da_cons (d_ix ix_seq (o_ix rfl) (d_ix ix_seq (o_ix rfl) (d_ix ix_seq (o_ix rfl) (dv 0) (dv 8)) d_int) d_int) (da_cons (d_ix ix_seq (o_ix rfl) (d_ix ix_seq (o_ix rfl) (d_ix ix_seq (o_ix rfl) (dv 0) (dv 8)) d_int) d_int) (da_cons (d_tup da_nil) da_nil))))))) (s_cons (s_asg (d_c G_grown ih (hr.mono (by omega)) (takes_of rfl rfl rfl rfl) (da_cons (dv 0) (da_cons (d_bin op_sub o_sub.op (dv 7) d_int) da_nil))) (dg_tup (dgs_cons (dg_name 9 sc_grown.nd) (dgs_cons (dg_name 10 sc_grown.nd) dgs_nil)))) (s_cons (s_set 5 sc_grown.nd (d_bin op_addA (o_add rfl).op (d_tup (da_cons (d_callBo 4 call_len (o_len rfl) E.b_len bt_len) da_nil)) (dv 10))) (s_one (s_app 4 rfl (dv 9)))))))) s_nil) (s_one (s_ret (d_tup (da_cons (d_tup (da_cons (dv 2) (da_cons (dv 3) (da_cons (d_callTyo 4 call_tuple_of (o_tup rfl) E.b_tuple bt_tuple) da_nil)))) (da_cons (dv 5) da_nil))))))))))
/-! ### walk_document -/
abbrev s_walk_document : Stmt := top 11
abbrev N_walk_document : List Str := ["walk", "document", "place"]
theorem sc_walk_document : FnScope N_walk_document ["walk"] (defScope s_walk_document) := ⟨rfl, rfl, rfl, by decide +kernel, rfl, by decide +kernel, by decide +kernel⟩
def g_walk_document : G := (sSeq (sAsg (mCall 2 (F_grown 11) (mCons (mVar 0) (mCons (mC (.int 0)) mNil))) (tTupG 2 (tsCons (tName 1) (tsCons (tName 2) tsNil)))) (sRet (mMap (mCons (mVar 1) (mCons (mVar 2) mNil)) mkT)))
def F_walk_document : FnM := run 3 g_walk_document
theorem ok_walk_document (E : Fa K w mg ca) (G_walk_document : Gv K mg "walk_document" s_walk_document ["walk"]) (G_grown : Gv K mg "grown" s_grown ["walk", "at"]) (P_grown : FnOk P w K mg base (L2.CX P w) 11 G_grown.f G_grown.fd ["walk", "at"] (spF K T ca 2 (F_grown 11))) : FnOk P w K mg base (L2.CX P w) 12 G_walk_document.f G_walk_document.fd ["walk"] (spF K T ca 1 F_walk_document) := by
  refine fn_ok G_walk_document.fn sc_walk_document rfl rfl (by decide) fun pin O0 H0 cdv A outer s H Ex hr => ?_
  exact (s_cons (s_asg (d_c G_grown P_grown (hr.mono (by omega)) (takes_of rfl rfl rfl rfl) (da_cons (dv 0) (da_cons d_int da_nil))) (dg_tup (dgs_cons (dg_name 1 sc_walk_document.nd) (dgs_cons (dg_name 2 sc_walk_document.nd) dgs_nil)))) (s_one (s_ret (d_tup (da_cons (dv 1) (da_cons (dv 2) da_nil))))))
/-! ### _law_draws -/
abbrev s_law_draws : Stmt := top 15
abbrev N_law_draws : List Str := ["_law_script", "_law_start", "_law_most", "_law_draws_here", "_law_cell_here", "_law_number", "_law_mixed", "_law_k"]
theorem sc_law_draws : FnScope N_law_draws ["_law_script", "_law_start", "_law_most"] (defScope s_law_draws) := ⟨rfl, rfl, rfl, by decide +kernel, rfl, by decide +kernel, by decide +kernel⟩
def b_law_draws_1 : G := (sSeq (sIf (mT (mMap2 (mVar 5) (mC (.int 0)) gtD)) (sApp 3 (mMap2 (mMap (mCons (mVar 5) mNil) intD) (mC (.int 10000)) modD)) sNext) (sAsg (mMap2 (mVar 5) (mC (.int 10000)) fdivD) (tName 5)))
def b_law_draws_2 : G := (sSeq (sAsg (mMap (mCons (mMap (mCons (mVar 4) mNil) intD) mNil) absD) (tName 5)) (sIf (mT (mMap2 (mVar 5) (mMap2 (mC (.int 10)) (mC (.int 18)) powD) ltD)) (sSeq (sAsg (mMap2 (mMap (mCons (mMap2 (mMap2 (mVar 5) (mC (.int 48271)) mulD) (mC (.int 11)) addD) mNil) intD) (mC (.int 2147483647)) modD) (tName 6)) (sSeq (sApp 3 (mVar 5)) (sSeq (sApp 3 (mMap2 (mMap2 (mMap (mCons (mMap2 (mMap2 (mMap2 (mVar 6) (mC (.int 16807)) mulD) (mMap2 (mVar 5) (mC (.int 9)) fdivD) addD) (mC (.int 3)) addD) mNil) intD) (mC (.int 2147483647)) modD) (mC (.int 7)) fdivD)) (sApp 3 (mMap2 (mMap2 (mMap (mCons (mMap2 (mMap2 (mMap2 (mVar 6) (mC (.int 69621)) mulD) (mMap2 (mVar 5) (mC (.int 5)) fdivD) addD) (mC (.int 7)) addD) mNil) intD) (mC (.int 2147483647)) modD) (mC (.int 11)) fdivD))))) (sFor (mMap (mCons (mC (.int 20)) mNil) rng1) (tName 7) b_law_draws_1)))
def g_law_draws : M (List D) := (lSeq (sOwn 3 (mMap mNil sized)) (lSeq (sFor (mMap (mSl (mVar 0) (mPart (some (mVar 1))) (mPart none)) items) (tName 4) b_law_draws_2) (mSlF 3 (mPart none) (mPart (some (mVar 2))))))
def F_law_draws : FnL := runL 8 g_law_draws
theorem ok_law_draws (E : Fa K w mg ca) (G_law_draws : Gv K mg "_law_draws" s_law_draws ["_law_script", "_law_start", "_law_most"]) : FnOk P w K mg base (L2.CX P w) 1 G_law_draws.f G_law_draws.fd ["_law_script", "_law_start", "_law_most"] (spL K T 3 F_law_draws) := by
  refine fn_okL (ca := ca) G_law_draws.fn sc_law_draws rfl rfl (by decide) fun pin O0 H0 cdv A outer s H Ex hr => ?_
  exact (l_cons (W := Wno) (s_own 3 sc_law_draws.nd (f_lst da_nil)) (l_cons (W := Wno) (s_for (passes_of rfl) (di_seq (d_sl (dv 0) (p_some (dv 1)) p_none)) (dg_name 4 sc_law_draws.nd) (s_cons (s_set 5 sc_law_draws.nd (d_callB call_abs (o_abs) E.b_abs bt_abs (da_cons (d_callTy call_int1 (o_int) E.b_int bt_int (da_cons (dv 4) da_nil)) da_nil))) (s_one (s_if (t_cmp op_ltA o_lt.op (dv 5) (d_bin op_pow o_pow.op d_int d_int)) (s_cons (s_set 6 sc_law_draws.nd (d_bin op_mod o_mod.op (d_callTy call_int1 (o_int) E.b_int bt_int (da_cons (d_bin op_addA (o_add rfl).op (d_bin op_mulA (o_mul rfl).op (dv 5) d_int) d_int) da_nil)) d_int)) (s_cons (s_app 3 rfl (dv 5)) (s_cons (s_app 3 rfl (d_bin op_fdiv o_fdiv.op (d_bin op_mod o_mod.op (d_callTy call_int1 (o_int) E.b_int bt_int (da_cons (d_bin op_addA (o_add rfl).op (d_bin op_addA (o_add rfl).op (d_bin op_mulA (o_mul rfl).op (dv 6) d_int) (d_bin op_fdiv o_fdiv.op (dv 5) d_int)) d_int) da_nil)) d_int) d_int)) (s_one (s_app 3 rfl (d_bin op_fdiv o_fdiv.op (d_bin op_mod o_mod.op (d_callTy call_int1 (o_int) E.b_int bt_int (da_cons (d_bin op_addA (o_add rfl).op (d_bin op_addA (o_add rfl).op (d_bin op_mulA (o_mul rfl).op (dv 6) d_int) (d_bin op_fdiv o_fdiv.op (dv 5) d_int)) d_int) da_nil)) d_int) d_int)))))) (s_one (s_for (passes_of rfl) (di_range1 E.b_range (da_cons d_int da_nil)) (dg_name 7 sc_law_draws.nd) (s_cons (s_if (t_cmp op_gtA o_gt.op (dv 5) d_int) (s_one (s_app 3 rfl (d_bin op_mod o_mod.op (d_callTy call_int1 (o_int) E.b_int bt_int (da_cons (dv 5) da_nil)) d_int))) s_nil) (s_one (s_set 5 sc_law_draws.nd (d_bin op_fdiv o_fdiv.op (dv 5) d_int)))))))))) (l_ret (W := Wno) (f_slo 3 p_none (p_some (dv 2))))))
/-! ### _law_next -/
abbrev s_law_next : Stmt := top 16
abbrev N_law_next : List Str := ["_law_draws_here"]
theorem sc_law_next : FnScope N_law_next ["_law_draws_here"] (defScope s_law_next) := ⟨rfl, rfl, rfl, by decide +kernel, rfl, by decide +kernel, by decide +kernel⟩
def g_law_next : G := (sSeq (sIf (mT (mMap2 (mOwn1 0 lenD) (mC (.int 0)) eqD)) (sRet (mC (.int 0))) sNext) (sRet (mPop0 0)))
def F_law_next : FnM := run 1 g_law_next
theorem ok_law_next (E : Fa K w mg ca) (G_law_next : Gv K mg "_law_next" s_law_next ["_law_draws_here"]) : FnOk P w K mg base (L2.CX P w) 1 G_law_next.f G_law_next.fd ["_law_draws_here"] (spF K T ca 1 F_law_next) := by
  refine fn_ok G_law_next.fn sc_law_next rfl rfl (by decide) fun pin O0 H0 cdv A outer s H Ex hr => ?_
  exact (s_cons (s_if (t_cmp (op_eqA hr) (o_eq rfl).op (d_callBo 0 call_len (o_len rfl) E.b_len bt_len) d_int) (s_one (s_ret d_int)) s_nil) (s_one (s_ret (d_pop0 0 rfl))))
/-! ### _law_part -/
abbrev s_law_part : Stmt := top 19
abbrev N_law_part : List Str := ["_law_draw", "_law_kind", "_law_marks_here", "_law_nots", "_law_pair"]
theorem sc_law_part : FnScope N_law_part ["_law_draw"] (defScope s_law_part) := ⟨rfl, rfl, rfl, by decide +kernel, rfl, by decide +kernel, by decide +kernel⟩
def g_law_part : G := (sSeq (sAsg (mMap2 (mMap (mCons (mC .none) (mCons (mC .none) (mCons (mC (.str "a")) (mCons (mC (.str "b")) (mCons (mC (.str "c")) mNil))))) mkL) (mMap2 (mVar 0) (mC (.int 5)) modD) ixD) (tName 1)) (sSeq (sAsg (mMap2 (mMap (mCons (mMap mNil mkT) (mCons (mMap mNil mkT) (mCons (mMap (mCons (mC (.str "x")) mNil) mkT) (mCons (mMap (mCons (mC (.str "y")) mNil) mkT) (mCons (mMap (mCons (mC (.str "x")) (mCons (mC (.str "y")) mNil)) mkT) mNil))))) mkL) (mMap2 (mMap2 (mVar 0) (mC (.int 5)) fdivD) (mC (.int 5)) modD) ixD) (tName 2)) (sSeq (sAsg (mMap2 (mMap (mCons (mMap mNil mkT) (mCons (mMap mNil mkT) (mCons (mMap mNil mkT) (mCons (mMap (mCons (mMap (mCons (mC (.str "kind")) (mCons (mC (.str "b")) mNil)) mkT) mNil) mkT) (mCons (mMap (mCons (mMap (mCons (mC (.str "mark")) (mCons (mC (.str "x")) mNil)) mkT) mNil) mkT) (mCons (mMap (mCons (mMap (mCons (mC (.str "kind")) (mCons (mC (.str "a")) mNil)) mkT) (mCons (mMap (mCons (mC (.str "mark")) (mCons (mC (.str "y")) mNil)) mkT) mNil)) mkT) mNil)))))) mkL) (mMap2 (mMap2 (mVar 0) (mC (.int 25)) fdivD) (mC (.int 6)) modD) ixD) (tName 3)) (sSeq (sAsg (mMap2 (mMap (mCons (mMap (mCons (mC (.int 1)) (mCons (mC (.int 0)) mNil)) mkT) (mCons (mMap (mCons (mC (.int 1)) (mCons (mC (.int 0)) mNil)) mkT) (mCons (mMap (mCons (mC (.int 1)) (mCons (mC (.int 0)) mNil)) mkT) (mCons (mMap (mCons (mC (.int 0)) (mCons (mC (.int 1)) mNil)) mkT) (mCons (mMap (mCons (mC (.int 2)) (mCons (mC (.int 1)) mNil)) mkT) (mCons (mMap (mCons (mC (.int 3)) (mCons (mC (.int 2)) mNil)) mkT) (mCons (mMap (mCons (mC (.int 0)) (mCons (mC (.int 2)) mNil)) mkT) (mCons (mMap (mCons (mC (.int 1)) (mCons (mC (.int 2)) mNil)) mkT) mNil)))))))) mkL) (mMap2 (mMap2 (mVar 0) (mC (.int 150)) fdivD) (mC (.int 8)) modD) ixD) (tName 4)) (sRet (mMap (mCons (mVar 1) (mCons (mVar 2) (mCons (mVar 3) (mCons (mMap2 (mVar 4) (mC (.int 0)) ixD) (mCons (mMap2 (mVar 4) (mC (.int 1)) ixD) mNil))))) mkT))))))
def F_law_part : FnM := run 5 g_law_part
theorem ok_law_part (E : Fa K w mg ca) (G_law_part : Gv K mg "_law_part" s_law_part ["_law_draw"]) : FnOk P w K mg base (L2.CX P w) 1 G_law_part.f G_law_part.fd ["_law_draw"] (spF K T ca 1 F_law_part) := by
  refine fn_ok G_law_part.fn sc_law_part rfl rfl (by decide) fun pin O0 H0 cdv A outer s H Ex hr => ?_
  exact (s_cons (s_set 1 sc_law_part.nd (d_ix ix_seq (o_ix rfl) (d_lst (da_cons d_non (da_cons d_non (da_cons d_str (da_cons d_str (da_cons d_str da_nil)))))) (d_bin op_mod o_mod.op (dv 0) d_int))) (s_cons (s_set 2 sc_law_part.nd (d_ix ix_seq (o_ix rfl) (d_lst (da_cons (d_tup da_nil) (da_cons (d_tup da_nil) (da_cons (d_tup (da_cons d_str da_nil)) (da_cons (d_tup (da_cons d_str da_nil)) (da_cons (d_tup (da_cons d_str (da_cons d_str da_nil))) da_nil)))))) (d_bin op_mod o_mod.op (d_bin op_fdiv o_fdiv.op (dv 0) d_int) d_int))) (s_cons (s_set 3 sc_law_part.nd (d_ix ix_seq (o_ix rfl) (d_lst (da_cons (d_tup da_nil) (da_cons (d_tup da_nil) (da_cons (d_tup da_nil) (da_cons (d_tup (da_cons (d_tup (da_cons d_str (da_cons d_str da_nil))) da_nil)) (da_cons (d_tup (da_cons (d_tup (da_cons d_str (da_cons d_str da_nil))) da_nil)) (da_cons (d_tup (da_cons (d_tup (da_cons d_str (da_cons d_str da_nil))) (da_cons (d_tup (da_cons d_str (da_cons d_str da_nil))) da_nil))) da_nil))))))) (d_bin op_mod o_mod.op (d_bin op_fdiv o_fdiv.op (dv 0) d_int) d_int))) (s_cons (s_set 4 sc_law_part.nd (d_ix ix_seq (o_ix rfl) (d_lst (da_cons (d_tup (da_cons d_int (da_cons d_int da_nil))) (da_cons (d_tup (da_cons d_int (da_cons d_int da_nil))) (da_cons (d_tup (da_cons d_int (da_cons d_int da_nil))) (da_cons (d_tup (da_cons d_int (da_cons d_int da_nil))) (da_cons (d_tup (da_cons d_int (da_cons d_int da_nil))) (da_cons (d_tup (da_cons d_int (da_cons d_int da_nil))) (da_cons (d_tup (da_cons d_int (da_cons d_int da_nil))) (da_cons (d_tup (da_cons d_int (da_cons d_int da_nil))) da_nil))))))))) (d_bin op_mod o_mod.op (d_bin op_fdiv o_fdiv.op (dv 0) d_int) d_int))) (s_one (s_ret (d_tup (da_cons (dv 1) (da_cons (dv 2) (da_cons (dv 3) (da_cons (d_ix ix_seq (o_ix rfl) (dv 4) d_int) (da_cons (d_ix ix_seq (o_ix rfl) (dv 4) d_int) da_nil))))))))))))
/-! ### _law_selector -/
abbrev s_law_selector : Stmt := top 20
abbrev N_law_selector : List Str := ["_law_draws_here", "_law_most", "_law_parts", "_law_links", "_law_k"]
theorem sc_law_selector : FnScope N_law_selector ["_law_draws_here", "_law_most"] (defScope s_law_selector) := ⟨rfl, rfl, rfl, by decide +kernel, rfl, by decide +kernel, by decide +kernel⟩
def b_law_selector_1 : G := (sSeq (sApp 3 (mMap2 (mMap (mCons (mC (.str "child")) (mCons (mC (.str "inside")) (mCons (mC (.str "next")) (mCons (mC (.str "after")) mNil)))) mkL) (mMap2 (mCallO 1 0 F_law_next mNil mNil) (mC (.int 4)) modD) ixD)) (sApp 2 (mCall 1 F_law_part (mCons (mCallO 1 0 F_law_next mNil mNil) mNil))))
def g_law_selector : G := (sSeq (sOwn 2 (mMap (mCons (mCall 1 F_law_part (mCons (mCallO 1 0 F_law_next mNil mNil) mNil)) mNil) sized)) (sSeq (sOwn 3 (mMap mNil sized)) (sSeq (sFor (mMap (mCons (mMap2 (mCallO 1 0 F_law_next mNil mNil) (mVar 1) modD) mNil) rng1) (tName 4) b_law_selector_1) (sRet (mMap (mCons (mOwn1 2 tupD) (mCons (mOwn1 3 tupD) mNil)) mkT)))))
def F_law_selector : FnM := run 5 g_law_selector
theorem ok_law_selector (E : Fa K w mg ca) (G_law_selector : Gv K mg "_law_selector" s_law_selector ["_law_draws_here", "_law_most"]) (G_law_next : Gv K mg "_law_next" s_law_next ["_law_draws_here"]) (P_law_next : FnOk P w K mg base (L2.CX P w) 1 G_law_next.f G_law_next.fd ["_law_draws_here"] (spF K T ca 1 F_law_next)) (G_law_part : Gv K mg "_law_part" s_law_part ["_law_draw"]) (P_law_part : FnOk P w K mg base (L2.CX P w) 1 G_law_part.f G_law_part.fd ["_law_draw"] (spF K T ca 1 F_law_part)) : FnOk P w K mg base (L2.CX P w) 2 G_law_selector.f G_law_selector.fd ["_law_draws_here", "_law_most"] (spF K T ca 2 F_law_selector) := by
  refine fn_ok G_law_selector.fn sc_law_selector rfl rfl (by decide) fun pin O0 H0 cdv A outer s H Ex hr => ?_
  exact (s_cons (s_own 2 sc_law_selector.nd (f_lst (da_cons (d_c G_law_part P_law_part (hr.mono (by omega)) (takes_of rfl rfl rfl rfl) (da_cons (d_callO P_law_next (hr.mono (by omega)) (takes_of rfl rfl rfl rfl) G_law_next.m G_law_next.kp G_law_next.bi (dao_here 0 da_nil)) da_nil)) da_nil))) (s_cons (s_own 3 sc_law_selector.nd (f_lst da_nil)) (s_cons (s_for (passes_of rfl) (di_range1 E.b_range (da_cons (d_bin op_mod o_mod.op (d_callO P_law_next (hr.mono (by omega)) (takes_of rfl rfl rfl rfl) G_law_next.m G_law_next.kp G_law_next.bi (dao_here 0 da_nil)) (dv 1)) da_nil)) (dg_name 4 sc_law_selector.nd) (s_cons (s_app 3 rfl (d_ix ix_seq (o_ix rfl) (d_lst (da_cons d_str (da_cons d_str (da_cons d_str (da_cons d_str da_nil))))) (d_bin op_mod o_mod.op (d_callO P_law_next (hr.mono (by omega)) (takes_of rfl rfl rfl rfl) G_law_next.m G_law_next.kp G_law_next.bi (dao_here 0 da_nil)) d_int))) (s_one (s_app 2 rfl (d_c G_law_part P_law_part (hr.mono (by omega)) (takes_of rfl rfl rfl rfl) (da_cons (d_callO P_law_next (hr.mono (by omega)) (takes_of rfl rfl rfl rfl) G_law_next.m G_law_next.kp G_law_next.bi (dao_here 0 da_nil)) da_nil)))))) (s_one (s_ret (d_tup (da_cons (d_callTyo 2 call_tuple_of (o_tup rfl) E.b_tuple bt_tuple) (da_cons (d_callTyo 3 call_tuple_of (o_tup rfl) E.b_tuple bt_tuple) da_nil))))))))
/-! ### _law_used -/
abbrev s_law_used : Stmt := top 21
abbrev N_law_used : List Str := ["_law_selectors", "_law_what", "_law_names", "_law_selector_here", "_law_part_here", "_law_test", "_law_k"]
theorem sc_law_used : FnScope N_law_used ["_law_selectors", "_law_what"] (defScope s_law_used) := ⟨rfl, rfl, rfl, by decide +kernel, rfl, by decide +kernel, by decide +kernel⟩
def e_law_used_1 : M D := (mMap2 (mVar 5) (mC (.int 1)) ixD)
def t_law_used_2 : M Bool := (mT (mMap2 (mMap2 (mVar 5) (mC (.int 0)) ixD) (mVar 1) eqD))
def b_law_used_3 : G := (sSeq (sIf (mAnd (mT (mMap2 (mVar 1) (mC (.str "kind")) eqD)) (mT (mMap2 (mMap2 (mVar 4) (mC (.int 0)) ixD) (mC .none) notNone))) (sApp 2 (mMap2 (mVar 4) (mC (.int 0)) ixD)) sNext) (sSeq (sIf (mT (mMap2 (mVar 1) (mC (.str "mark")) eqD)) (sFrz 2 (sOwn 2 (mMap2 (mVar 2) (mMap (mCons (mMap2 (mVar 4) (mC (.int 1)) ixD) mNil) lstD) catL))) sNext) (sFrz 2 (sOwn 2 (mMap2 (mVar 2) (mL (mLc [5] (mMap (mMap2 (mVar 4) (mC (.int 2)) ixD) items) (tName 5) t_law_used_2 e_law_used_1)) catL)))))
def b_law_used_4 : G := (sFor (mMap (mMap2 (mVar 3) (mC (.int 0)) ixD) items) (tName 4) b_law_used_3)
def e_law_used_5 : M D := (mOwnL 2 (mVar 6) ixD)
def t_law_used_6 : M Bool := (mT (mMap2 (mOwnL 2 (mVar 6) ixD) (mSlO 2 (mPart none) (mPart (some (mVar 6)))) notInD))
def g_law_used : G := (sSeq (sOwn 2 (mMap mNil sized)) (sSeq (sFor (mMap (mVar 0) items) (tName 3) b_law_used_4) (sRet (mL (mMap (mL (mLc [6] (mMap (mCons (mOwn1 2 lenD) mNil) rng1) (tName 6) t_law_used_6 e_law_used_5)) sortL)))))
def F_law_used : FnM := run 7 g_law_used
theorem ok_law_used (E : Fa K w mg ca) (G_law_used : Gv K mg "_law_used" s_law_used ["_law_selectors", "_law_what"]) : FnOk P w K mg base (L2.CX P w) 1 G_law_used.f G_law_used.fd ["_law_selectors", "_law_what"] (spF K T ca 2 F_law_used) := by
  refine fn_ok G_law_used.fn sc_law_used rfl rfl (by decide) fun pin O0 H0 cdv A outer s H Ex hr => ?_
  exact (s_cons (s_own 2 sc_law_used.nd (f_lst da_nil)) (s_cons (s_for (passes_of rfl) (di_seq (dv 0)) (dg_name 3 sc_law_used.nd) (s_one (s_for (passes_of rfl) (di_seq (d_ix ix_seq (o_ix rfl) (dv 3) d_int)) (dg_name 4 sc_law_used.nd) (s_cons (s_if (t_bo (w_and (t_cmp (op_eqA hr) (o_eq rfl).op (dv 1) d_str) (w_and1 (t_cmp op_notN o_notN (d_ix ix_seq (o_ix rfl) (dv 4) d_int) d_non)))) (s_one (s_app 2 rfl (d_ix ix_seq (o_ix rfl) (dv 4) d_int))) s_nil) (s_cons (s_if (t_cmp (op_eqA hr) (o_eq rfl).op (dv 1) d_str) (ss_frz 2 (s_one (s_own 2 sc_law_used.nd (f_cat (dv 2) (d_callTy call_list_of ((o_lst rfl).op fun _ _ => one_lst) E.b_list bt_list (da_cons (d_ix ix_seq (o_ix rfl) (dv 4) d_int) da_nil)))))) s_nil) (ss_frz 2 (s_one (s_own 2 sc_law_used.nd (f_cat (dv 2) (d_of (f_lc (own := [("_law_test", 5)]) sc_law_used.nd (blkOk_by (N := N_law_used) (sc := defScope s_law_used) (by decide +kernel)) (di_seq (d_ix ix_seq (o_ix rfl) (dv 4) d_int)) (fun _ _ _ _ _ => (dg_name 5 sc_law_used.nd)) (fun _ _ _ _ _ => dts_one (t_cmp (op_eqA hr) (o_eq rfl).op (d_ix ix_seq (o_ix rfl) (dv 5) d_int) (dv 1))) (fun _ _ _ _ _ => (d_ix ix_seq (o_ix rfl) (dv 5) d_int))))))))))))) (s_one (s_ret (d_of (f_sortL (hu3 hr) E.b_sorted (d_of (f_lc (own := [("_law_k", 6)]) sc_law_used.nd (blkOk_by (N := N_law_used) (sc := defScope s_law_used) (by decide +kernel)) (di_range1 E.b_range (da_cons (d_callBo 2 call_len (o_len rfl) E.b_len bt_len) da_nil)) (fun _ _ _ _ _ => (dg_name 6 sc_law_used.nd)) (fun _ _ _ _ _ => dts_one (t_cmp op_notIn_seq (o_notIn rfl).op (d_ixo 2 ix_seq (o_ix rfl) (dv 6)) (d_slo 2 p_none (p_some (dv 6))))) (fun _ _ _ _ _ => (d_ixo 2 ix_seq (o_ix rfl) (dv 6)))))))))))
/-! ### _law_letters -/
abbrev s_law_letters : Stmt := top 22
abbrev N_law_letters : List Str := ["_law_selectors", "_law_kinds", "_law_marks_here", "_law_rows", "_law_mark", "_law_row", "_law_other", "_law_k", "_law_pairs", "_law_kind"]
theorem sc_law_letters : FnScope N_law_letters ["_law_selectors"] (defScope s_law_letters) := ⟨rfl, rfl, rfl, by decide +kernel, rfl, by decide +kernel, by decide +kernel⟩
def e_law_letters_1 : M D := (mMap2 (mVar 5) (mMap (mCons (mVar 4) mNil) mkT) addD)
def b_law_letters_2 : G := (sAsg (mMap2 (mVar 3) (mL (mLc [5] (mMap (mVar 3) items) (tName 5) mYes e_law_letters_1)) addD) (tName 3))
def b_law_letters_3 : G := (sIf (mT (mMap2 (mVar 6) (mVar 1) inD)) (sAsg (mMap2 (mVar 6) (mC (.str "z")) addD) (tName 6)) sNext)
def e_law_letters_4 : M D := (mMap (mCons (mVar 9) (mCons (mVar 5) mNil)) mkT)
def b_law_letters_5 : G := (sAsg (mMap2 (mVar 8) (mL (mLc [5] (mMap (mVar 3) items) (tName 5) mYes e_law_letters_4)) addD) (tName 8))
def g_law_letters : G := (sSeq (sAsg (mCall 2 F_law_used (mCons (mVar 0) (mCons (mC (.str "kind")) mNil))) (tName 1)) (sSeq (sAsg (mCall 2 F_law_used (mCons (mVar 0) (mCons (mC (.str "mark")) mNil))) (tName 2)) (sSeq (sAsg (mMap (mCons (mMap mNil mkT) mNil) mkL) (tName 3)) (sSeq (sFor (mMap (mVar 2) items) (tName 4) b_law_letters_2) (sSeq (sAsg (mC (.str "z")) (tName 6)) (sSeq (sFor (mMap (mCons (mMap2 (mMap (mCons (mVar 1) mNil) lenD) (mC (.int 1)) addD) mNil) rng1) (tName 7) b_law_letters_3) (sSeq (sAsg (mMap mNil mkL) (tName 8)) (sSeq (sFor (mMap (mMap2 (mVar 1) (mMap (mCons (mVar 6) mNil) mkL) addD) items) (tName 9) b_law_letters_5) (sRet (mL (mMap (mVar 8) sortP)))))))))))
def F_law_letters : FnM := run 10 g_law_letters
theorem ok_law_letters (E : Fa K w mg ca) (G_law_letters : Gt K mg "_law_letters" s_law_letters ["_law_selectors"]) (hPT : LmIn T G_law_letters.PT "_law_letters.<locals>.<lambda>") (TB : LamX.TabB base mg G_law_letters.cc G_law_letters.PT) (G_law_used : Gv K mg "_law_used" s_law_used ["_law_selectors", "_law_what"]) (P_law_used : FnOk P w K mg base (L2.CX P w) 1 G_law_used.f G_law_used.fd ["_law_selectors", "_law_what"] (spF K T ca 2 F_law_used)) : FnOk P w K mg base (L2.CX P w) 2 G_law_letters.f G_law_letters.fd ["_law_selectors"] (spF K T ca 1 F_law_letters) := by
  refine fn_okC G_law_letters.fc sc_law_letters rfl rfl (by decide) fun pin O0 H0 A outer s H Ex hr => ?_
  exact (s_cons (s_set 1 sc_law_letters.nd (d_c G_law_used P_law_used (hr.mono (by omega)) (takes_of rfl rfl rfl rfl) (da_cons (dv 0) (da_cons d_str da_nil)))) (s_cons (s_set 2 sc_law_letters.nd (d_c G_law_used P_law_used (hr.mono (by omega)) (takes_of rfl rfl rfl rfl) (da_cons (dv 0) (da_cons d_str da_nil)))) (s_cons (s_set 3 sc_law_letters.nd (d_lst (da_cons (d_tup da_nil) da_nil))) (s_cons (s_for (passes_of rfl) (di_seq (dv 2)) (dg_name 4 sc_law_letters.nd) (s_one (s_set 3 sc_law_letters.nd (d_bin op_addA (o_add rfl).op (dv 3) (d_of (f_lc (own := [("_law_row", 5)]) sc_law_letters.nd (blkOk_by (N := N_law_letters) (sc := defScope s_law_letters) (by decide +kernel)) (di_seq (dv 3)) (fun _ _ _ _ _ => (dg_name 5 sc_law_letters.nd)) (fun _ _ _ _ _ => dts_nil) (fun _ _ _ _ _ => (d_bin op_addA (o_add rfl).op (dv 5) (d_tup (da_cons (dv 4) da_nil)))))))))) (s_cons (s_set 6 sc_law_letters.nd d_str) (s_cons (s_for (passes_of rfl) (di_range1 E.b_range (da_cons (d_bin op_addA (o_add rfl).op (d_callB call_len ((o_len rfl).op fun _ _ => one_len) E.b_len bt_len (da_cons (dv 1) da_nil)) d_int) da_nil)) (dg_name 7 sc_law_letters.nd) (s_one (s_if (t_cmp op_in_seq (o_in rfl).op (dv 6) (dv 1)) (s_one (s_set 6 sc_law_letters.nd (d_bin op_addA (o_add rfl).op (dv 6) d_str))) s_nil))) (s_cons (s_set 8 sc_law_letters.nd (d_lst da_nil)) (s_cons (s_for (passes_of rfl) (di_seq (d_bin op_addA (o_add rfl).op (dv 1) (d_lst (da_cons (dv 6) da_nil)))) (dg_name 9 sc_law_letters.nd) (s_one (s_set 8 sc_law_letters.nd (d_bin op_addA (o_add rfl).op (dv 8) (d_of (f_lc (own := [("_law_row", 5)]) sc_law_letters.nd (blkOk_by (N := N_law_letters) (sc := defScope s_law_letters) (by decide +kernel)) (di_seq (dv 3)) (fun _ _ _ _ _ => (dg_name 5 sc_law_letters.nd)) (fun _ _ _ _ _ => dts_nil) (fun _ _ _ _ _ => (d_tup (da_cons (dv 9) (da_cons (dv 5) da_nil)))))))))) (s_one (s_ret (d_of (f_sortP (hln := (by decide +kernel : ("_law_letters.<locals>.<lambda>" : Str) = "_law_letters.<locals>." ++ "<lambda>")) hr E.b_sorted E.b_len hPT TB rfl (dv 8)))))))))))))
/-! ### _law_grown -/
abbrev s_law_grown : Stmt := top 23
abbrev N_law_grown : List Str := ["_law_walk_here", "_law_nodes", "_law_k", "_law_above", "_law_built", "_law_below", "_law_j", "_law_place", "_law_at", "_law_elder"]
theorem sc_law_grown : FnScope N_law_grown ["_law_walk_here"] (defScope s_law_grown) := ⟨rfl, rfl, rfl, by decide +kernel, rfl, by decide +kernel, by decide +kernel⟩
def b_law_grown_1 : G := (sSeq (sAsg (mMap (mC (.int 1)) negD) (tName 3)) (sSeq (sIf (mT (mMap2 (mMap2 (mMap2 (mVar 0) (mVar 2) ixD) (mC (.int 0)) ixD) (mC (.str "down")) eqD)) (sAsg (mMap2 (mVar 2) (mC (.int 1)) subD) (tName 3)) sNext) (sSeq (sIf (mT (mMap2 (mMap2 (mMap2 (mVar 0) (mVar 2) ixD) (mC (.int 0)) ixD) (mC (.str "right")) eqD)) (sAsg (mMap2 (mOwnL 1 (mMap2 (mVar 2) (mC (.int 1)) subD) ixD) (mC (.int 1)) ixD) (tName 3)) sNext) (sApp 1 (mMap (mCons (mMap2 (mMap2 (mVar 0) (mVar 2) ixD) (mC (.int 1)) ixD) (mCons (mVar 3) mNil)) mkT)))))
def e_law_grown_2 : M D := (mOwnL 4 (mVar 6) ixD)
def t_law_grown_3 : M Bool := (mT (mMap2 (mMap2 (mOwnL 1 (mVar 6) ixD) (mC (.int 1)) ixD) (mVar 2) eqD))
def b_law_grown_4 : G := (sSeq (sAsg (mMap (mCons (mL (mLc [6] (mMap (mCons (mMap2 (mVar 2) (mC (.int 1)) addD) (mCons (mMap (mCons (mVar 0) mNil) lenD) mNil)) rng2) (tName 6) t_law_grown_3 e_law_grown_2)) mNil) tupD) (tName 5)) (sPutO 4 (mVar 2) (mMap (mCons (mMap2 (mMap2 (mOwnL 1 (mVar 2) ixD) (mC (.int 0)) ixD) (mC (.int 0)) ixD) (mCons (mMap2 (mMap2 (mOwnL 1 (mVar 2) ixD) (mC (.int 0)) ixD) (mC (.int 1)) ixD) (mCons (mVar 5) mNil))) mkT)))
def t_law_grown_5 : M Bool := (mT (mMap2 (mMap2 (mOwnL 1 (mVar 6) ixD) (mC (.int 1)) ixD) (mMap2 (mOwnL 1 (mVar 8) ixD) (mC (.int 1)) ixD) eqD))
def b_law_grown_6 : G := (sIf (mT (mMap2 (mMap2 (mOwnL 1 (mVar 8) ixD) (mC (.int 1)) ixD) (mC (.int 0)) geD)) (sSeq (sAsg (mMap (mCons (mL (mLc [6] (mMap (mCons (mVar 8) mNil) rng1) (tName 6) t_law_grown_5 (mVar 6))) mNil) lenD) (tName 9)) (sSeq (sAsg (mMap2 (mMap (mCons (mVar 9) mNil) mkT) (mVar 7) addD) (tName 7)) (sAsg (mMap2 (mOwnL 1 (mVar 8) ixD) (mC (.int 1)) ixD) (tName 8)))) sNext)
def g_law_grown : G := (sSeq (sOwn 1 (mMap mNil sized)) (sSeq (sFor (mMap (mCons (mMap (mCons (mVar 0) mNil) lenD) mNil) rng1) (tName 2) b_law_grown_1) (sSeq (sOwn 4 (mLc [2] (mMap (mCons (mMap (mCons (mVar 0) mNil) lenD) mNil) rng1) (tName 2) mYes (mC .none))) (sSeq (sFor (mMap (mCons (mMap2 (mMap (mCons (mVar 0) mNil) lenD) (mC (.int 1)) subD) (mCons (mMap (mC (.int 1)) negD) (mCons (mMap (mC (.int 1)) negD) mNil))) rng3) (tName 2) b_law_grown_4) (sSeq (sAsg (mMap mNil mkT) (tName 7)) (sSeq (sAsg (mMap2 (mMap (mCons (mVar 0) mNil) lenD) (mC (.int 1)) subD) (tName 8)) (sSeq (sFor (mMap (mCons (mMap (mCons (mVar 0) mNil) lenD) mNil) rng1) (tName 2) b_law_grown_6) (sRet (mMap (mCons (mOwnL 4 (mC (.int 0)) ixD) (mCons (mVar 7) mNil)) mkT)))))))))
def F_law_grown : FnM := run 10 g_law_grown
theorem ok_law_grown (E : Fa K w mg ca) (G_law_grown : Gv K mg "_law_grown" s_law_grown ["_law_walk_here"]) : FnOk P w K mg base (L2.CX P w) 1 G_law_grown.f G_law_grown.fd ["_law_walk_here"] (spF K T ca 1 F_law_grown) := by
  refine fn_ok G_law_grown.fn sc_law_grown rfl rfl (by decide) fun pin O0 H0 cdv A outer s H Ex hr => ?_
  exact (s_cons (s_own 1 sc_law_grown.nd (f_lst da_nil)) (s_cons (s_for (passes_of rfl) (di_range1 E.b_range (da_cons (d_callB call_len ((o_len rfl).op fun _ _ => one_len) E.b_len bt_len (da_cons (dv 0) da_nil)) da_nil)) (dg_name 2 sc_law_grown.nd) (s_cons (s_set 3 sc_law_grown.nd (d_neg d_int)) (s_cons (s_if (t_cmp (op_eqA hr) (o_eq rfl).op (d_ix ix_seq (o_ix rfl) (d_ix ix_seq (o_ix rfl) (dv 0) (dv 2)) d_int) d_str) (s_one (s_set 3 sc_law_grown.nd (d_bin op_sub o_sub.op (dv 2) d_int))) s_nil) (s_cons (s_if (t_cmp (op_eqA hr) (o_eq rfl).op (d_ix ix_seq (o_ix rfl) (d_ix ix_seq (o_ix rfl) (dv 0) (dv 2)) d_int) d_str) (s_one (s_set 3 sc_law_grown.nd (d_ix ix_seq (o_ix rfl) (d_ixo 1 ix_seq (o_ix rfl) (d_bin op_sub o_sub.op (dv 2) d_int)) d_int))) s_nil) (s_one (s_app 1 rfl (d_tup (da_cons (d_ix ix_seq (o_ix rfl) (d_ix ix_seq (o_ix rfl) (dv 0) (dv 2)) d_int) (da_cons (dv 3) da_nil))))))))) (s_cons (s_own 4 sc_law_grown.nd (f_lc (own := [("_law_k", 2)]) sc_law_grown.nd (blkOk_by (N := N_law_grown) (sc := defScope s_law_grown) (by decide +kernel)) (di_range1 E.b_range (da_cons (d_callB call_len ((o_len rfl).op fun _ _ => one_len) E.b_len bt_len (da_cons (dv 0) da_nil)) da_nil)) (fun _ _ _ _ _ => (dg_name 2 sc_law_grown.nd)) (fun _ _ _ _ _ => dts_nil) (fun _ _ _ _ _ => d_non))) (s_cons (s_for (passes_of rfl) (di_range3 E.b_range (da_cons (d_bin op_sub o_sub.op (d_callB call_len ((o_len rfl).op fun _ _ => one_len) E.b_len bt_len (da_cons (dv 0) da_nil)) d_int) (da_cons (d_neg d_int) (da_cons (d_neg d_int) da_nil)))) (dg_name 2 sc_law_grown.nd) (s_cons (s_set 5 sc_law_grown.nd (d_callTy call_tuple_of ((o_tup rfl).op fun _ _ => one_tup) E.b_tuple bt_tuple (da_cons (d_of (f_lc (own := [("_law_j", 6)]) sc_law_grown.nd (blkOk_by (N := N_law_grown) (sc := defScope s_law_grown) (by decide +kernel)) (di_range2 E.b_range (da_cons (d_bin op_addA (o_add rfl).op (dv 2) d_int) (da_cons (d_callB call_len ((o_len rfl).op fun _ _ => one_len) E.b_len bt_len (da_cons (dv 0) da_nil)) da_nil))) (fun _ _ _ _ _ => (dg_name 6 sc_law_grown.nd)) (fun _ _ _ _ _ => dts_one (t_cmp (op_eqA hr) (o_eq rfl).op (d_ix ix_seq (o_ix rfl) (d_ixo 1 ix_seq (o_ix rfl) (dv 6)) d_int) (dv 2))) (fun _ _ _ _ _ => (d_ixo 4 ix_seq (o_ix rfl) (dv 6))))) da_nil))) (s_one (s_putO 4 (dv 2) (d_tup (da_cons (d_ix ix_seq (o_ix rfl) (d_ix ix_seq (o_ix rfl) (d_ixo 1 ix_seq (o_ix rfl) (dv 2)) d_int) d_int) (da_cons (d_ix ix_seq (o_ix rfl) (d_ix ix_seq (o_ix rfl) (d_ixo 1 ix_seq (o_ix rfl) (dv 2)) d_int) d_int) (da_cons (dv 5) da_nil)))))))) (s_cons (s_set 7 sc_law_grown.nd (d_tup da_nil)) (s_cons (s_set 8 sc_law_grown.nd (d_bin op_sub o_sub.op (d_callB call_len ((o_len rfl).op fun _ _ => one_len) E.b_len bt_len (da_cons (dv 0) da_nil)) d_int)) (s_cons (s_for (passes_of rfl) (di_range1 E.b_range (da_cons (d_callB call_len ((o_len rfl).op fun _ _ => one_len) E.b_len bt_len (da_cons (dv 0) da_nil)) da_nil)) (dg_name 2 sc_law_grown.nd) (s_one (s_if (t_cmp op_geA o_ge.op (d_ix ix_seq (o_ix rfl) (d_ixo 1 ix_seq (o_ix rfl) (dv 8)) d_int) d_int) (s_cons (s_set 9 sc_law_grown.nd (d_callB call_len ((o_len rfl).op fun _ _ => one_len) E.b_len bt_len (da_cons (d_of (f_lc (own := [("_law_j", 6)]) sc_law_grown.nd (blkOk_by (N := N_law_grown) (sc := defScope s_law_grown) (by decide +kernel)) (di_range1 E.b_range (da_cons (dv 8) da_nil)) (fun _ _ _ _ _ => (dg_name 6 sc_law_grown.nd)) (fun _ _ _ _ _ => dts_one (t_cmp (op_eqA hr) (o_eq rfl).op (d_ix ix_seq (o_ix rfl) (d_ixo 1 ix_seq (o_ix rfl) (dv 6)) d_int) (d_ix ix_seq (o_ix rfl) (d_ixo 1 ix_seq (o_ix rfl) (dv 8)) d_int))) (fun _ _ _ _ _ => (dv 6)))) da_nil))) (s_cons (s_set 7 sc_law_grown.nd (d_bin op_addA (o_add rfl).op (d_tup (da_cons (dv 9) da_nil)) (dv 7))) (s_one (s_set 8 sc_law_grown.nd (d_ix ix_seq (o_ix rfl) (d_ixo 1 ix_seq (o_ix rfl) (dv 8)) d_int))))) s_nil))) (s_one (s_ret (d_tup (da_cons (d_ixo 4 ix_seq (o_ix rfl) d_int) (da_cons (dv 7) da_nil))))))))))))
/-! ### _law_walk -/
abbrev s_law_walk : Stmt := top 24
abbrev N_law_walk : List Str := ["_law_draws_here", "_law_alphabet", "_law_walk_here", "_law_k", "_law_draw", "_law_move"]
theorem sc_law_walk : FnScope N_law_walk ["_law_draws_here", "_law_alphabet"] (defScope s_law_walk) := ⟨rfl, rfl, rfl, by decide +kernel, rfl, by decide +kernel, by decide +kernel⟩
def b_law_walk_1 : G := (sSeq (sAsg (mCallO 1 0 F_law_next mNil mNil) (tName 4)) (sSeq (sAsg (mMap2 (mMap (mCons (mC (.str "down")) (mCons (mC (.str "right")) mNil)) mkL) (mMap2 (mVar 4) (mC (.int 2)) modD) ixD) (tName 5)) (sSeq (sIf (mT (mMap2 (mOwn1 2 lenD) (mC (.int 1)) eqD)) (sAsg (mC (.str "down")) (tName 5)) sNext) (sApp 2 (mMap (mCons (mVar 5) (mCons (mMap2 (mVar 1) (mMap2 (mMap2 (mVar 4) (mC (.int 2)) fdivD) (mMap (mCons (mVar 1) mNil) lenD) modD) ixD) mNil)) mkT)))))
def g_law_walk : G := (sSeq (sOwn 2 (mMap (mCons (mMap (mCons (mC (.str "root")) (mCons (mMap2 (mVar 1) (mMap2 (mCallO 1 0 F_law_next mNil mNil) (mMap (mCons (mVar 1) mNil) lenD) modD) ixD) mNil)) mkT) mNil) sized)) (sSeq (sFor (mMap (mCons (mMap2 (mCallO 1 0 F_law_next mNil mNil) (mC (.int 9)) modD) mNil) rng1) (tName 3) b_law_walk_1) (sRet (mOwn1 2 tupD))))
def F_law_walk : FnM := run 6 g_law_walk
theorem ok_law_walk (E : Fa K w mg ca) (G_law_walk : Gv K mg "_law_walk" s_law_walk ["_law_draws_here", "_law_alphabet"]) (G_law_next : Gv K mg "_law_next" s_law_next ["_law_draws_here"]) (P_law_next : FnOk P w K mg base (L2.CX P w) 1 G_law_next.f G_law_next.fd ["_law_draws_here"] (spF K T ca 1 F_law_next)) : FnOk P w K mg base (L2.CX P w) 2 G_law_walk.f G_law_walk.fd ["_law_draws_here", "_law_alphabet"] (spF K T ca 2 F_law_walk) := by
  refine fn_ok G_law_walk.fn sc_law_walk rfl rfl (by decide) fun pin O0 H0 cdv A outer s H Ex hr => ?_
  exact (s_cons (s_own 2 sc_law_walk.nd (f_lst (da_cons (d_tup (da_cons d_str (da_cons (d_ix ix_seq (o_ix rfl) (dv 1) (d_bin op_mod o_mod.op (d_callO P_law_next (hr.mono (by omega)) (takes_of rfl rfl rfl rfl) G_law_next.m G_law_next.kp G_law_next.bi (dao_here 0 da_nil)) (d_callB call_len ((o_len rfl).op fun _ _ => one_len) E.b_len bt_len (da_cons (dv 1) da_nil)))) da_nil))) da_nil))) (s_cons (s_for (passes_of rfl) (di_range1 E.b_range (da_cons (d_bin op_mod o_mod.op (d_callO P_law_next (hr.mono (by omega)) (takes_of rfl rfl rfl rfl) G_law_next.m G_law_next.kp G_law_next.bi (dao_here 0 da_nil)) d_int) da_nil)) (dg_name 3 sc_law_walk.nd) (s_cons (s_set 4 sc_law_walk.nd (d_callO P_law_next (hr.mono (by omega)) (takes_of rfl rfl rfl rfl) G_law_next.m G_law_next.kp G_law_next.bi (dao_here 0 da_nil))) (s_cons (s_set 5 sc_law_walk.nd (d_ix ix_seq (o_ix rfl) (d_lst (da_cons d_str (da_cons d_str da_nil))) (d_bin op_mod o_mod.op (dv 4) d_int))) (s_cons (s_if (t_cmp (op_eqA hr) (o_eq rfl).op (d_callBo 2 call_len (o_len rfl) E.b_len bt_len) d_int) (s_one (s_set 5 sc_law_walk.nd d_str)) s_nil) (s_one (s_app 2 rfl (d_tup (da_cons (dv 5) (da_cons (d_ix ix_seq (o_ix rfl) (dv 1) (d_bin op_mod o_mod.op (d_bin op_fdiv o_fdiv.op (dv 4) d_int) (d_callB call_len ((o_len rfl).op fun _ _ => one_len) E.b_len bt_len (da_cons (dv 1) da_nil)))) da_nil))))))))) (s_one (s_ret (d_callTyo 2 call_tuple_of (o_tup rfl) E.b_tuple bt_tuple)))))
/-! ### _law_many -/
abbrev s_law_many : Stmt := top 25
abbrev N_law_many : List Str := ["_law_first", "_law_second"]
theorem sc_law_many : FnScope N_law_many ["_law_first", "_law_second"] (defScope s_law_many) := ⟨rfl, rfl, rfl, by decide +kernel, rfl, by decide +kernel, by decide +kernel⟩
def g_law_many : G := (sSeq (sTry exm_TooMany (sDrop (mCall 2 F_letters (mCons (mVar 0) (mCons (mVar 1) mNil)))) (sRet (mC (.bool true)))) (sRet (mC (.bool false))))
def F_law_many : FnM := run 2 g_law_many
theorem ok_law_many (E : Fa K w mg ca) (G_law_many : Gv K mg "_law_many" s_law_many ["_law_first", "_law_second"]) (G_letters : Gt K mg "letters" s_letters ["first", "second"]) (P_letters : FnOk P w K mg base (L2.CX P w) 3 G_letters.f G_letters.fd ["first", "second"] (spF K T ca 2 F_letters)) : FnOk P w K mg base (L2.CX P w) 4 G_law_many.f G_law_many.fd ["_law_first", "_law_second"] (spF K T ca 2 F_law_many) := by
  refine fn_ok G_law_many.fn sc_law_many rfl rfl (by decide) fun pin O0 H0 cdv A outer s H Ex hr => ?_
  exact (s_cons (s_try (exm := exm_TooMany) ⟨rfl, by decide, .inl E.x_TooMany.g⟩ E.h_TooMany (takes_of rfl rfl rfl rfl) (fun _ _ _ tk1 hp1 => (s_one (s_expr (d_c G_letters.toGv P_letters (hr.mono (by omega)) tk1 (da_cons (dv 0) (da_cons (dv 1) da_nil)))))) (fun _ _ _ => (s_one (s_ret d_bl)))) (s_one (s_ret d_bl)))
/-! ### law -/
abbrev s_law : Stmt := top 26
abbrev N_law : List Str := ["_law_script", "_law_draws_here", "_law_first", "_law_k", "_law_second", "_law_expected", "_law_walk_here", "_law_actual", "_law_kinds", "_law_marks_here"]
theorem sc_law : FnScope N_law ["_law_script"] (defScope s_law) := ⟨rfl, rfl, rfl, by decide +kernel, rfl, by decide +kernel, by decide +kernel⟩
def e_law_1 : M D := (mCallO 2 1 F_law_selector mNil (mCons (mC (.int 3)) mNil))
def e_law_2 : M D := (mCallO 2 1 F_law_selector mNil (mCons (mC (.int 3)) mNil))
def e_law_3 : M D := (mMap (mCons (mMap (mCons (mMap (mCons (mMap2 (mC (.str "abcdefz")) (mVar 3) ixD) (mCons (mMap mNil mkT) (mCons (mMap mNil mkT) (mCons (mC (.int 1)) (mCons (mC (.int 0)) mNil))))) mkT) mNil) mkT) (mCons (mMap mNil mkT) mNil)) mkT)
def g_law : G := (sSeq (sOwn 1 (mCallL 3 F_law_draws (mCons (mVar 0) (mCons (mC (.int 0)) (mCons (mC (.int 90)) mNil))))) (sSeq (sAsg (mMap (mCons (mL (mLc [3] (mMap (mCons (mMap2 (mCallO 1 1 F_law_next mNil mNil) (mC (.int 4)) modD) mNil) rng1) (tName 3) mYes e_law_1)) mNil) tupD) (tName 2)) (sSeq (sAsg (mMap (mCons (mL (mLc [3] (mMap (mCons (mMap2 (mCallO 1 1 F_law_next mNil mNil) (mC (.int 4)) modD) mNil) rng1) (tName 3) mYes e_law_2)) mNil) tupD) (tName 4)) (sSeq (sAsg (mCall 1 F_law_letters (mCons (mMap2 (mVar 2) (mVar 4) addD) mNil)) (tName 5)) (sSeq (sIf (mOr (mT (mMap2 (mCall 2 F_letters (mCons (mVar 2) (mCons (mVar 4) mNil))) (mVar 5) neD)) (mT (mMap2 (mCall 2 F_letters (mCons (mVar 4) (mCons (mVar 2) mNil))) (mVar 5) neD))) (sRet (mC (.bool false))) sNext) (sSeq (sAsg (mCallO 2 1 F_law_walk mNil (mCons (mVar 5) mNil)) (tName 6)) (sSeq (sAsg (mCall 1 F_walk_document (mCons (mVar 6) mNil)) (tName 7)) (sSeq (sIf (mOr (mT (mMap2 (mVar 7) (mCall 1 F_law_grown (mCons (mVar 6) mNil)) neD)) (mNot (mT (mMap (mVar 7) (isiD "tuple"))))) (sRet (mC (.bool false))) sNext) (sSeq (sAsg (mMap (mCons (mL (mLc [3] (mMap (mCons (mC (.int 6)) mNil) rng1) (tName 3) mYes e_law_3)) mNil) tupD) (tName 8)) (sSeq (sAsg (mMap (mCons (mMap (mCons (mMap (mCons (mMap (mCons (mC .none) (mCons (mMap (mCons (mC (.str "a")) (mCons (mC (.str "b")) (mCons (mC (.str "c")) mNil))) mkT) (mCons (mMap mNil mkT) (mCons (mC (.int 1)) (mCons (mC (.int 0)) mNil))))) mkT) mNil) mkT) (mCons (mMap mNil mkT) mNil)) mkT) (mCons (mMap (mCons (mMap (mCons (mMap (mCons (mC .none) (mCons (mMap mNil mkT) (mCons (mMap (mCons (mMap (mCons (mC (.str "mark")) (mCons (mC (.str "d")) mNil)) mkT) (mCons (mMap (mCons (mC (.str "mark")) (mCons (mC (.str "e")) mNil)) mkT) mNil)) mkT) (mCons (mC (.int 1)) (mCons (mC (.int 0)) mNil))))) mkT) mNil) mkT) (mCons (mMap mNil mkT) mNil)) mkT) mNil)) mkT) (tName 9)) (sSeq (sIf (mOr (mNot (mT (mCall 2 F_law_many (mCons (mVar 8) (mCons (mMap mNil mkT) mNil))))) (mOr (mT (mCall 2 F_law_many (mCons (mSl (mVar 8) (mPart none) (mPart (some (mC (.int 3))))) (mCons (mSl (mVar 8) (mPart (some (mC (.int 1)))) (mPart (some (mC (.int 5))))) mNil)))) (mNot (mT (mCall 2 F_law_many (mCons (mSl (mVar 8) (mPart none) (mPart (some (mC (.int 3))))) (mCons (mSl (mVar 8) (mPart (some (mC (.int 3)))) (mPart none)) mNil))))))) (sRet (mC (.bool false))) sNext) (sRet (mAndV (mNotV (mCall 2 F_law_many (mCons (mSl (mVar 9) (mPart none) (mPart (some (mC (.int 1))))) (mCons (mMap mNil mkT) mNil)))) (mAndV (mCall 2 F_law_many (mCons (mSl (mVar 9) (mPart none) (mPart (some (mC (.int 1))))) (mCons (mSl (mVar 9) (mPart (some (mC (.int 1)))) (mPart none)) mNil))) (mMap2 (mCall 2 F_letters (mCons (mMap mNil mkT) (mCons (mMap mNil mkT) mNil))) (mMap (mCons (mMap (mCons (mC (.str "z")) (mCons (mMap mNil mkT) mNil)) mkT) mNil) mkL) eqD)))))))))))))))
def F_law : FnM := run 10 g_law
theorem ok_law (E : Fa K w mg ca) (G_law : Gv K mg "law" s_law ["_law_script"]) (G_law_draws : Gv K mg "_law_draws" s_law_draws ["_law_script", "_law_start", "_law_most"]) (P_law_draws : FnOk P w K mg base (L2.CX P w) 1 G_law_draws.f G_law_draws.fd ["_law_script", "_law_start", "_law_most"] (spL K T 3 F_law_draws)) (G_law_grown : Gv K mg "_law_grown" s_law_grown ["_law_walk_here"]) (P_law_grown : FnOk P w K mg base (L2.CX P w) 1 G_law_grown.f G_law_grown.fd ["_law_walk_here"] (spF K T ca 1 F_law_grown)) (G_law_letters : Gt K mg "_law_letters" s_law_letters ["_law_selectors"]) (P_law_letters : FnOk P w K mg base (L2.CX P w) 2 G_law_letters.f G_law_letters.fd ["_law_selectors"] (spF K T ca 1 F_law_letters)) (G_law_many : Gv K mg "_law_many" s_law_many ["_law_first", "_law_second"]) (P_law_many : FnOk P w K mg base (L2.CX P w) 4 G_law_many.f G_law_many.fd ["_law_first", "_law_second"] (spF K T ca 2 F_law_many)) (G_law_next : Gv K mg "_law_next" s_law_next ["_law_draws_here"]) (P_law_next : FnOk P w K mg base (L2.CX P w) 1 G_law_next.f G_law_next.fd ["_law_draws_here"] (spF K T ca 1 F_law_next)) (G_law_selector : Gv K mg "_law_selector" s_law_selector ["_law_draws_here", "_law_most"]) (P_law_selector : FnOk P w K mg base (L2.CX P w) 2 G_law_selector.f G_law_selector.fd ["_law_draws_here", "_law_most"] (spF K T ca 2 F_law_selector)) (G_law_walk : Gv K mg "_law_walk" s_law_walk ["_law_draws_here", "_law_alphabet"]) (P_law_walk : FnOk P w K mg base (L2.CX P w) 2 G_law_walk.f G_law_walk.fd ["_law_draws_here", "_law_alphabet"] (spF K T ca 2 F_law_walk)) (G_letters : Gt K mg "letters" s_letters ["first", "second"]) (P_letters : FnOk P w K mg base (L2.CX P w) 3 G_letters.f G_letters.fd ["first", "second"] (spF K T ca 2 F_letters)) (G_walk_document : Gv K mg "walk_document" s_walk_document ["walk"]) (P_walk_document : FnOk P w K mg base (L2.CX P w) 12 G_walk_document.f G_walk_document.fd ["walk"] (spF K T ca 1 F_walk_document)) : FnOk P w K mg base (L2.CX P w) 13 G_law.f G_law.fd ["_law_script"] (spF K T ca 1 F_law) := by
  refine fn_ok G_law.fn sc_law rfl rfl (by decide) fun pin O0 H0 cdv A outer s H Ex hr => ?_
  exact (s_cons (s_own 1 sc_law.nd (f_c G_law_draws P_law_draws (hr.mono (by omega)) (takes_of rfl rfl rfl rfl) (da_cons (dv 0) (da_cons d_int (da_cons d_int da_nil))))) (s_cons (s_set 2 sc_law.nd (d_callTy call_tuple_of ((o_tup rfl).op fun _ _ => one_tup) E.b_tuple bt_tuple (da_cons (d_of (f_lc (own := [("_law_k", 3)]) sc_law.nd (blkOk_by (N := N_law) (sc := defScope s_law) (by decide +kernel)) (di_range1 E.b_range (da_cons (d_bin op_mod o_mod.op (d_callO P_law_next (hr.mono (by omega)) (takes_of rfl rfl rfl rfl) G_law_next.m G_law_next.kp G_law_next.bi (dao_here 1 da_nil)) d_int) da_nil)) (fun _ _ _ _ _ => (dg_name 3 sc_law.nd)) (fun _ _ _ _ _ => dts_nil) (fun _ _ _ _ _ => (d_callO P_law_selector (hr.mono (by omega)) takes_no G_law_selector.m G_law_selector.kp G_law_selector.bi (dao_here 1 (da_cons d_int da_nil)))))) da_nil))) (s_cons (s_set 4 sc_law.nd (d_callTy call_tuple_of ((o_tup rfl).op fun _ _ => one_tup) E.b_tuple bt_tuple (da_cons (d_of (f_lc (own := [("_law_k", 3)]) sc_law.nd (blkOk_by (N := N_law) (sc := defScope s_law) (by decide +kernel)) (di_range1 E.b_range (da_cons (d_bin op_mod o_mod.op (d_callO P_law_next (hr.mono (by omega)) (takes_of rfl rfl rfl rfl) G_law_next.m G_law_next.kp G_law_next.bi (dao_here 1 da_nil)) d_int) da_nil)) (fun _ _ _ _ _ => (dg_name 3 sc_law.nd)) (fun _ _ _ _ _ => dts_nil) (fun _ _ _ _ _ => (d_callO P_law_selector (hr.mono (by omega)) takes_no G_law_selector.m G_law_selector.kp G_law_selector.bi (dao_here 1 (da_cons d_int da_nil)))))) da_nil))) (s_cons (s_set 5 sc_law.nd (d_c G_law_letters.toGv P_law_letters (hr.mono (by omega)) (takes_of rfl rfl rfl rfl) (da_cons (d_bin op_addA (o_add rfl).op (dv 2) (dv 4)) da_nil))) (s_cons (s_if (t_bo (w_or (t_cmp (op_neA hr) (o_ne rfl).op (d_c G_letters.toGv P_letters (hr.mono (by omega)) (takes_of rfl rfl rfl rfl) (da_cons (dv 2) (da_cons (dv 4) da_nil))) (dv 5)) (w_or1 (t_cmp (op_neA hr) (o_ne rfl).op (d_c G_letters.toGv P_letters (hr.mono (by omega)) (takes_of rfl rfl rfl rfl) (da_cons (dv 4) (da_cons (dv 2) da_nil))) (dv 5))))) (s_one (s_ret d_bl)) s_nil) (s_cons (s_set 6 sc_law.nd (d_callO P_law_walk (hr.mono (by omega)) (takes_of rfl rfl rfl rfl) G_law_walk.m G_law_walk.kp G_law_walk.bi (dao_here 1 (da_cons (dv 5) da_nil)))) (s_cons (s_set 7 sc_law.nd (d_c G_walk_document P_walk_document (hr.mono (by omega)) (takes_of rfl rfl rfl rfl) (da_cons (dv 6) da_nil))) (s_cons (s_if (t_bo (w_or (t_cmp (op_neA hr) (o_ne rfl).op (dv 7) (d_c G_law_grown P_law_grown (hr.mono (by omega)) (takes_of rfl rfl rfl rfl) (da_cons (dv 6) da_nil))) (w_or1 (t_not (t_val (d_isi (dv 7) E.b_isinstance bt_isinstance E.b_tuple bt_tuple)))))) (s_one (s_ret d_bl)) s_nil) (s_cons (s_set 8 sc_law.nd (d_callTy call_tuple_of ((o_tup rfl).op fun _ _ => one_tup) E.b_tuple bt_tuple (da_cons (d_of (f_lc (own := [("_law_k", 3)]) sc_law.nd (blkOk_by (N := N_law) (sc := defScope s_law) (by decide +kernel)) (di_range1 E.b_range (da_cons d_int da_nil)) (fun _ _ _ _ _ => (dg_name 3 sc_law.nd)) (fun _ _ _ _ _ => dts_nil) (fun _ _ _ _ _ => (d_tup (da_cons (d_tup (da_cons (d_tup (da_cons (d_ix ix_seq (o_ix rfl) d_str (dv 3)) (da_cons (d_tup da_nil) (da_cons (d_tup da_nil) (da_cons d_int (da_cons d_int da_nil)))))) da_nil)) (da_cons (d_tup da_nil) da_nil)))))) da_nil))) (s_cons (s_set 9 sc_law.nd (d_tup (da_cons (d_tup (da_cons (d_tup (da_cons (d_tup (da_cons d_non (da_cons (d_tup (da_cons d_str (da_cons d_str (da_cons d_str da_nil)))) (da_cons (d_tup da_nil) (da_cons d_int (da_cons d_int da_nil)))))) da_nil)) (da_cons (d_tup da_nil) da_nil))) (da_cons (d_tup (da_cons (d_tup (da_cons (d_tup (da_cons d_non (da_cons (d_tup da_nil) (da_cons (d_tup (da_cons (d_tup (da_cons d_str (da_cons d_str da_nil))) (da_cons (d_tup (da_cons d_str (da_cons d_str da_nil))) da_nil))) (da_cons d_int (da_cons d_int da_nil)))))) da_nil)) (da_cons (d_tup da_nil) da_nil))) da_nil)))) (s_cons (s_if (t_bo (w_or (t_not (t_val (d_c G_law_many P_law_many (hr.mono (by omega)) (takes_of rfl rfl rfl rfl) (da_cons (dv 8) (da_cons (d_tup da_nil) da_nil))))) (w_or (t_val (d_c G_law_many P_law_many (hr.mono (by omega)) (takes_of rfl rfl rfl rfl) (da_cons (d_sl (dv 8) p_none (p_some d_int)) (da_cons (d_sl (dv 8) (p_some d_int) (p_some d_int)) da_nil)))) (w_or1 (t_not (t_val (d_c G_law_many P_law_many (hr.mono (by omega)) (takes_of rfl rfl rfl rfl) (da_cons (d_sl (dv 8) p_none (p_some d_int)) (da_cons (d_sl (dv 8) (p_some d_int) p_none) da_nil))))))))) (s_one (s_ret d_bl)) s_nil) (s_one (s_ret (d_and (d_not (d_c G_law_many P_law_many (hr.mono (by omega)) (takes_of rfl rfl rfl rfl) (da_cons (d_sl (dv 9) p_none (p_some d_int)) (da_cons (d_tup da_nil) da_nil)))) (d_and (d_c G_law_many P_law_many (hr.mono (by omega)) (takes_of rfl rfl rfl rfl) (da_cons (d_sl (dv 9) p_none (p_some d_int)) (da_cons (d_sl (dv 9) (p_some d_int) p_none) da_nil))) (d_one (d_cmp (op_eqA hr) (o_eq rfl).op (d_c G_letters.toGv P_letters (hr.mono (by omega)) (takes_of rfl rfl rfl rfl) (da_cons (d_tup da_nil) (da_cons (d_tup da_nil) da_nil))) (d_lst (da_cons (d_tup (da_cons d_str (da_cons (d_tup da_nil) da_nil))) da_nil)))))))))))))))))))
end
end DL

namespace DL
open PySem PySem.Spec L2
/-! ### typed documents and selectors -/
inductive Kd where
  | a | b | c | d | z
  deriving DecidableEq, Repr
inductive Mk where
  | w | x | y
  deriving DecidableEq, Repr
def Kd.s : Kd → Str
  | .a => "a" | .b => "b" | .c => "c" | .d => "d" | .z => "z"
def Mk.s : Mk → Str
  | .w => "w" | .x => "x" | .y => "y"
inductive Tst where
  | kind (k : Kd)
  | mark (m : Mk)
  deriving DecidableEq, Repr
inductive Lk where
  | child | inside | next | after
  deriving DecidableEq, Repr
def Lk.s : Lk → Str
  | .child => "child" | .inside => "inside" | .next => "next" | .after => "after"
structure Part where
  k : Option Kd
  m : List Mk
  n : List Tst
  s : Nat
  f : Nat
  deriving DecidableEq, Repr
abbrev nat (k : Nat) : D := .int (k : Int)
abbrev kD (k : Kd) : D := .str k.s
abbrev mD (m : Mk) : D := .str m.s
abbrev msD (ms : List Mk) : D := .tuple (ms.map mD)
abbrev lD (l : Lk) : D := .str l.s
def okD : Option Kd → D
  | none => .none
  | some k => kD k
def tD : Tst → D
  | .kind k => .tuple [.str "kind", kD k]
  | .mark m => .tuple [.str "mark", mD m]
def pD (p : Part) : D := .tuple [okD p.k, msD p.m, .tuple (p.n.map tD), nat p.s, nat p.f]
/-- parts and links -/
structure Sel where
  ps : List Part
  ls : List Lk
  deriving DecidableEq, Repr
def sD (s : Sel) : D := .tuple [.tuple (s.ps.map pD), .tuple (s.ls.map lD)]
def Sel.ok (s : Sel) : Prop := s.ls.length + 1 = s.ps.length
inductive El where
  | mk (k : Kd) (m : List Mk) (c : List El)
def El.k : El → Kd | .mk k _ _ => k
def El.m : El → List Mk | .mk _ m _ => m
def El.c : El → List El | .mk _ _ c => c
mutual
def eD : El → D
  | .mk k m c => .tuple [kD k, msD m, .tuple (eDs c)]
def eDs : List El → List D
  | [] => []
  | e :: r => eD e :: eDs r
end
theorem eDs_eq : ∀ c : List El, eDs c = c.map eD
  | [] => rfl
  | e :: r => by rw [eDs, eDs_eq r, List.map_cons]
theorem eD_eq (e : El) : eD e = .tuple [kD e.k, msD e.m, .tuple (e.c.map eD)] := by
  cases e with
  | mk k m c => rw [eD, eDs_eq]; rfl
mutual
def El.sz : El → Nat
  | .mk _ _ c => szs c + 1
def szs : List El → Nat
  | [] => 0
  | e :: r => e.sz + szs r
end
mutual
def El.dep : El → Nat
  | .mk _ _ c => deps c + 1
def deps : List El → Nat
  | [] => 0
  | e :: r => max e.dep (deps r)
end
theorem deps_le {n : Nat} : ∀ {c : List El}, deps c ≤ n ↔ ∀ e ∈ c, e.dep ≤ n
  | [] => by simp [deps]
  | e :: r => by
    rw [deps, Nat.max_le, deps_le (c := r)]
    simp
theorem El.dep_eq (e : El) : e.dep = deps e.c + 1 := by cases e; rfl
theorem El.sz_eq (e : El) : e.sz = szs e.c + 1 := by cases e; rfl
mutual
def places : El → List (List Nat)
  | .mk _ _ c => [] :: placesF 0 c
def placesF : Nat → List El → List (List Nat)
  | _, [] => []
  | i, e :: r => (places e).map (i :: ·) ++ placesF (i + 1) r
end
theorem places_eq' (e : El) : places e = [] :: placesF 0 e.c := by cases e; rfl
mutual
theorem places_len : ∀ e : El, (places e).length = e.sz
  | .mk _ _ c => by rw [places, El.sz, List.length_cons, placesF_len 0 c]
theorem placesF_len : ∀ (i : Nat) (c : List El), (placesF i c).length = szs c
  | _, [] => rfl
  | i, e :: r => by rw [placesF, szs, List.length_append, List.length_map, places_len e, placesF_len (i + 1) r]
end
/-- the element at a place -/
def El.at : El → List Nat → Option El
  | e, [] => some e
  | .mk _ _ c, i :: p => match c[i]? with
    | some e => e.at p
    | none => none
theorem at_nil (e : El) : e.at [] = some e := by cases e; rfl
theorem at_cons (e : El) (i : Nat) (p : List Nat) : e.at (i :: p) = (e.c[i]?).bind (·.at p) := by
  cases e with
  | mk k m c => rw [El.at, El.c]; cases c[i]? <;> rfl
theorem at_app : ∀ (p q : List Nat) (e : El), e.at (p ++ q) = (e.at p).bind (·.at q)
  | [], q, e => by rw [List.nil_append, at_nil]; rfl
  | i :: p, q, e => by
    rw [List.cons_append, at_cons, at_cons, Option.bind_assoc]
    congr 1
    funext x
    exact at_app p q x
def plD (p : List Nat) : D := .tuple (p.map nat)
def numOf (p : List Nat) : Nat := match p.getLast? with
  | some i => i + 1
  | none => 1
/-! ### what a part asks -/
def fitsN (s f n : Nat) : Bool := if s = 0 then n == f else decide (f ≤ n) && (n - f) % s == 0
def tst (k : Kd) (ms : List Mk) : Tst → Bool
  | .kind q => q == k
  | .mark m => ms.contains m
def kOk : Option Kd → Kd → Bool
  | none, _ => true
  | some q, k => q == k
def fits (p : Part) (k : Kd) (ms : List Mk) (n : Nat) : Bool := kOk p.k k && (!(p.m.any fun m => !ms.contains m) && (!p.n.any (tst k ms) && fitsN p.s p.f n))
/-! ### operators on the names -/
theorem Kd.inj : ∀ a b : Kd, (a.s == b.s) = (a == b) := by intro a b; cases a <;> cases b <;> decide +kernel
theorem Mk.inj : ∀ a b : Mk, (a.s == b.s) = (a == b) := by intro a b; cases a <;> cases b <;> decide +kernel
theorem Lk.inj : ∀ a b : Lk, (a.s == b.s) = (a == b) := by intro a b; cases a <;> cases b <;> decide +kernel
theorem neD_s (i j : Str) : neD (.str i) (.str j) = some (.bool (!(i == j))) := by simp only [neD, scalD, true_or, if_true, PyData.eqv]
theorem eqD_k (a b : Kd) : eqD (kD a) (kD b) = some (.bool (a == b)) := by rw [eqD_s, Kd.inj]
theorem neD_k (a b : Kd) : neD (kD a) (kD b) = some (.bool (!(a == b))) := by rw [neD_s, Kd.inj]
theorem L_c (l : Lk) : (l.s == "child") = (l == .child) := by cases l <;> decide +kernel
theorem L_i (l : Lk) : (l.s == "inside") = (l == .inside) := by cases l <;> decide +kernel
theorem L_n (l : Lk) : (l.s == "next") = (l == .next) := by cases l <;> decide +kernel
theorem L_a (l : Lk) : (l.s == "after") = (l == .after) := by cases l <;> decide +kernel
theorem L_cc : (Lk.child == Lk.child) = true := rfl
theorem L_ic : (Lk.inside == Lk.child) = false := rfl
theorem L_ii : (Lk.inside == Lk.inside) = true := rfl
theorem L_nc : (Lk.next == Lk.child) = false := rfl
theorem L_ni : (Lk.next == Lk.inside) = false := rfl
theorem L_nn : (Lk.next == Lk.next) = true := rfl
theorem L_ac : (Lk.after == Lk.child) = false := rfl
theorem L_ai : (Lk.after == Lk.inside) = false := rfl
theorem L_an : (Lk.after == Lk.next) = false := rfl
theorem L_aa : (Lk.after == Lk.after) = true := rfl
theorem eqD_kk : eqD (.str "kind") (.str "kind") = some (.bool true) := by rw [eqD_s]; rfl
theorem s_km : (("kind" : Str) == "mark") = false := by decide +kernel
theorem s_mk : (("mark" : Str) == "kind") = false := by decide +kernel
theorem eqD_km : eqD (.str "kind") (.str "mark") = some (.bool false) := by rw [eqD_s, s_km]
theorem eqD_mk : eqD (.str "mark") (.str "kind") = some (.bool false) := by rw [eqD_s, s_mk]
theorem eqD_mm : eqD (.str "mark") (.str "mark") = some (.bool true) := by rw [eqD_s]; rfl
theorem eqv_m (a b : Mk) : PyData.eqv (mD a) (mD b) = (a == b) := by rw [← Mk.inj]; rfl
theorem eqv_k (a b : Kd) : PyData.eqv (kD a) (kD b) = (a == b) := by rw [← Kd.inj]; rfl
theorem flat_m (ms : List Mk) : (ms.map mD).all flatD = true := by
  rw [List.all_map]
  exact List.all_eq_true.mpr fun _ _ => rfl
theorem any_m (ms : List Mk) (m : Mk) : (ms.map mD).any (fun z => PyData.eqv z (mD m)) = ms.contains m := by
  rw [List.any_map]
  induction ms with
  | nil => rfl
  | cons a r ih =>
    rw [List.any_cons, ih, List.contains_cons]
    show (PyData.eqv (mD a) (mD m) || _) = _
    rw [eqv_m]
    congr 1
    cases a <;> cases m <;> rfl
theorem inD_m (ms : List Mk) (m : Mk) : inD (mD m) (msD ms) = some (.bool (ms.contains m)) := by
  show (if flatD (mD m) = true ∧ (ms.map mD).all flatD = true then some (PyData.bool ((ms.map mD).any fun z => PyData.eqv z (mD m))) else none) = _
  rw [if_pos ⟨rfl, flat_m ms⟩, any_m]
theorem notInD_m (ms : List Mk) (m : Mk) : notInD (mD m) (msD ms) = some (.bool (!ms.contains m)) := by
  show (if flatD (mD m) = true ∧ (ms.map mD).all flatD = true then some (PyData.bool (!(ms.map mD).any fun z => PyData.eqv z (mD m))) else none) = _
  rw [if_pos ⟨rfl, flat_m ms⟩, any_m]
theorem notNone_k (k : Option Kd) : notNone (okD k) .none = some (.bool k.isSome) := by cases k <;> rfl
/-! ### places, indices -/
theorem ix_nat {xs : List D} {k : Nat} {d : D} (h : xs[k]? = some d) : ixD (.tuple xs) (nat k) = some d := ixD_t h
theorem ixl_nat {xs : List D} {k : Nat} {d : D} (h : xs[k]? = some d) : ixD (.list xs) (nat k) = some d := ixD_l h
theorem ix_last (xs : List D) (d : D) : ixD (.tuple (xs ++ [d])) (.int (-1)) = some d := by
  show atI (xs ++ [d]) (-1) = some d
  unfold atI ixN
  rw [if_neg (by decide), if_pos (by rw [List.length_append, List.length_singleton]; omega)]
  show (xs ++ [d])[((-1 : Int) + ((xs ++ [d]).length : Nat)).toNat]? = some d
  rw [List.length_append, List.length_singleton, show ((-1 : Int) + ((xs.length + 1 : Nat) : Int)).toNat = xs.length by omega]
  simp
theorem ixl_last (xs : List D) (d : D) : ixD (.list (xs ++ [d])) (.int (-1)) = some d := ix_last xs d
theorem cut_init (xs : List D) (d : D) : cutD (xs ++ [d]) none (some (-1)) = xs := by
  have e : HT.sIx (xs ++ [d]).length (xs ++ [d]).length (some (-1)) = xs.length := by
    show (if (-1 : Int) < 0 then ((-1 : Int) + ((xs ++ [d]).length : Int)).toNat else min (-1 : Int).toNat (xs ++ [d]).length) = xs.length
    rw [if_pos (by decide), List.length_append, List.length_singleton]
    omega
  unfold cutD
  rw [HT.sIx_none, Nat.sub_zero, List.drop_zero, e]
  simp
theorem sl_init (xs : List D) (d : D) : slD (.tuple (xs ++ [d])) none (some (-1)) = some (.tuple xs) := by
  show some (PyData.tuple (cutD (xs ++ [d]) none (some (-1)))) = _
  rw [cut_init]
theorem cut_to (xs : List D) (k : Nat) : cutD xs none (some (k : Int)) = xs.take k := by
  unfold cutD
  rw [HT.sIx_none, Nat.sub_zero, List.drop_zero, HT.sIx_nat]
  rw [← List.take_take, List.take_length]
theorem cut_from (xs : List D) (k : Nat) : cutD xs (some (k : Int)) none = xs.drop k := by
  unfold cutD
  rw [HT.sIx_none, HT.sIx_nat]
  by_cases h : k ≤ xs.length
  · rw [Nat.min_eq_left h, List.take_of_length_le (by rw [List.length_drop]; omega)]
  · rw [Nat.min_eq_right (by omega), List.drop_length, List.drop_of_length_le (by omega), List.take_nil]
theorem slt_to (xs : List D) (k : Nat) : slD (.tuple xs) none (some (k : Int)) = some (.tuple (xs.take k)) := by
  show some (PyData.tuple (cutD xs none (some (k : Int)))) = _
  rw [cut_to]
theorem sll_to (xs : List D) (k : Nat) : slD (.list xs) none (some (k : Int)) = some (.list (xs.take k)) := by
  show some (PyData.list (cutD xs none (some (k : Int)))) = _
  rw [cut_to]
theorem slt_from (xs : List D) (k : Nat) : slD (.tuple xs) (some (k : Int)) none = some (.tuple (xs.drop k)) := by
  show some (PyData.tuple (cutD xs (some (k : Int)) none)) = _
  rw [cut_from]
theorem sll_from (xs : List D) (k : Nat) : slD (.list xs) (some (k : Int)) none = some (.list (xs.drop k)) := by
  show some (PyData.list (cutD xs (some (k : Int)) none)) = _
  rw [cut_from]
theorem eD_0 (e : El) : ixD (eD e) (.int 0) = some (kD e.k) := by rw [eD_eq]; exact ix_0 _ _
theorem eD_1 (e : El) : ixD (eD e) (.int 1) = some (msD e.m) := by rw [eD_eq]; exact ix_1 _ _ _
theorem eD_2 (e : El) : ixD (eD e) (.int 2) = some (.tuple (e.c.map eD)) := by rw [eD_eq]; exact ix_2 _ _ _ _
theorem pD_0 (p : Part) : ixD (pD p) (.int 0) = some (okD p.k) := ix_0 _ _
theorem pD_1 (p : Part) : ixD (pD p) (.int 1) = some (msD p.m) := ix_1 _ _ _
theorem pD_2 (p : Part) : ixD (pD p) (.int 2) = some (.tuple (p.n.map tD)) := ix_2 _ _ _ _
theorem pD_3 (p : Part) : ixD (pD p) (.int 3) = some (nat p.s) := ix_nat (k := 3) rfl
theorem pD_4 (p : Part) : ixD (pD p) (.int 4) = some (nat p.f) := ix_nat (k := 4) rfl
theorem sD_0 (s : Sel) : ixD (sD s) (.int 0) = some (.tuple (s.ps.map pD)) := ix_0 _ _
theorem sD_1 (s : Sel) : ixD (sD s) (.int 1) = some (.tuple (s.ls.map lD)) := ix_1 _ _ _
theorem negD_i (i : Int) : negD (.int i) = some (.int (-i)) := rfl
theorem mT_T (b : Bool) : asB (.bool b) = some b := rfl
theorem two (b : Bool) : b = true ∨ b = false := by cases b <;> simp
theorem mkT_sm {xs : List D} (h : xs.length ≤ 100000) : mkT xs = some (.tuple xs) := mkT_s (small_line h)
theorem mkL_sm {xs : List D} (h : xs.length ≤ 100000) : mkL xs = some (.list xs) := mkL_s (small_line h)
theorem addT_sm {xs ys : List D} (h : xs.length + ys.length ≤ 100000) : addD (.tuple xs) (.tuple ys) = some (.tuple (xs ++ ys)) := addD_t (small_line h)
theorem addL_sm {xs ys : List D} (h : xs.length + ys.length ≤ 100000) : addD (.list xs) (.list ys) = some (.list (xs ++ ys)) := addD_l (small_line h)
def NO (z : Sl) : Prop := match z with
  | .own _ => False
  | .dic _ => False
  | _ => True
theorem no_un : NO .un := trivial
theorem no_dat (d : D) : NO (.dat d) := trivial
/-- a slot that holds no owned list can be stored to -/
def putS1 (z : Sl) (r : Option Sts) : Option Sts := match z with
  | .own _ => none
  | _ => r
theorem seq_nx {g h : G} {s s1 : Sts} (e : g s = .nx s1) : sSeq g h s = h s1 := by
  unfold sSeq
  rw [e]
  rfl
theorem seq_ifr {g h : G} {s : Sts} {b : Bool} {v : D} (e : g s = if b = true then .nx s else .ret v s) : sSeq g h s = if b = true then h s else .ret v s := by
  unfold sSeq
  rw [e]
  cases b <;> rfl
theorem run_x {n : Nat} {g : G} {ss st s : Sts} {d : D} (hg : g st = .ret d s) (ho : outs ss s = ss) (hs : ss ++ List.replicate (n - ss.length) .un = st := by rfl) : run n g ss = .ok d ss := run_ret hg hs ho
theorem run_xe {n : Nat} {g : G} {ss st s : Sts} {x : Str} (hg : g st = .err x s) (ho : outs ss s = ss) (hs : ss ++ List.replicate (n - ss.length) .un = st := by rfl) : run n g ss = .err x ss := run_err hg hs ho
theorem run_of {n : Nat} {g : G} {ss st : Sts} {d : D} (hg : ∃ s, g st = .ret d s ∧ outs ss s = ss) (hs : ss ++ List.replicate (n - ss.length) .un = st := by rfl) : run n g ss = .ok d ss := by
  obtain ⟨s, h1, h2⟩ := hg
  exact run_ret h1 hs h2
theorem run_erof {n : Nat} {g : G} {ss st : Sts} {x : Str} (hg : ∃ s, g st = .err x s ∧ outs ss s = ss) (hs : ss ++ List.replicate (n - ss.length) .un = st := by rfl) : run n g ss = .err x ss := by
  obtain ⟨s, h1, h2⟩ := hg
  exact run_err h1 hs h2
end DL

namespace DL
open PySem PySem.Spec L2
/-! ### loops by an invariant -/
theorem for_list {α : Type} {t : Tg} {body : G} (f : α → D) (I : Nat → Sts → Prop) : ∀ (xs : List α) (n : Nat) (s : Sts), I n s →
    (∀ k x s, xs[k]? = some x → I (n + k) s → ∃ s1 s2, t (f x) s = some s1 ∧ body s1 = .nx s2 ∧ I (n + k + 1) s2) → ∃ s', forG t body (xs.map f) s = .nx s' ∧ I (n + xs.length) s'
  | [], n, s, h0, _ => ⟨s, rfl, h0⟩
  | x :: r, n, s, h0, step => by
    obtain ⟨s1, s2, e1, e2, h1⟩ := step 0 x s rfl h0
    obtain ⟨s', q, h2⟩ := for_list f I r (n + 1) s2 h1 fun k y u hy hu => by
      have := step (k + 1) y u (by simpa using hy) (by rw [show n + (k + 1) = n + 1 + k by omega]; exact hu)
      rw [show n + (k + 1) + 1 = n + 1 + k + 1 by omega] at this
      exact this
    refine ⟨s', ?_, by rw [List.length_cons, show n + (r.length + 1) = n + 1 + r.length by omega]; exact h2⟩
    rw [List.map_cons, for_nx e1 e2, q]
/-- the same, the invariant by what is done -/
theorem for_fold {α β : Type} {t : Tg} {body : G} (f : α → D) (I : β → Sts → Prop) (st : β → α → β) : ∀ (xs : List α) (b : β) (s : Sts), I b s →
    (∀ b x s, x ∈ xs → I b s → ∃ s1 s2, t (f x) s = some s1 ∧ body s1 = .nx s2 ∧ I (st b x) s2) → ∃ s', forG t body (xs.map f) s = .nx s' ∧ I (xs.foldl st b) s'
  | [], b, s, h0, _ => ⟨s, rfl, h0⟩
  | x :: r, b, s, h0, step => by
    obtain ⟨s1, s2, e1, e2, h1⟩ := step b x s List.mem_cons_self h0
    obtain ⟨s', q, h2⟩ := for_fold f I st r (st b x) s2 h1 fun b y u hy hu => step b y u (List.mem_cons_of_mem _ hy) hu
    exact ⟨s', by rw [List.map_cons, for_nx e1 e2, q], h2⟩
/-- a loop that returns v at the first x with b x -/
theorem for_ret_list {α : Type} {t : Tg} {body : G} (f : α → D) (v : D) (b : α → Bool) (P R : Sts → Prop) : ∀ (xs : List α) (s : Sts), P s →
    (∀ x ∈ xs, ∀ s, P s → ∃ s1, t (f x) s = some s1 ∧ (b x = false → ∃ s2, body s1 = .nx s2 ∧ P s2) ∧ (b x = true → ∃ s2, body s1 = .ret v s2 ∧ R s2)) →
    if xs.any b = true then ∃ s', forG t body (xs.map f) s = .ret v s' ∧ R s' else ∃ s', forG t body (xs.map f) s = .nx s' ∧ P s'
  | [], s, h0, _ => ⟨s, rfl, h0⟩
  | x :: r, s, h0, step => by
    obtain ⟨s1, e1, e2, e3⟩ := step x List.mem_cons_self s h0
    rw [List.any_cons, List.map_cons]
    rcases two (b x) with hb | hb
    · obtain ⟨s2, e, h2⟩ := e3 hb
      rw [hb, Bool.true_or, if_pos rfl]
      exact ⟨s2, for_ret e1 e, h2⟩
    · obtain ⟨s2, e, h2⟩ := e2 hb
      rw [hb, Bool.false_or, for_nx e1 e]
      exact for_ret_list f v b P R r s2 h2 fun y hy => step y (List.mem_cons_of_mem _ hy)
theorem seq_for {f : M (List D)} {t : Tg} {b h : G} {s s0 : Sts} {ds : List D} {v : D} {c : Bool} {P R : Sts → Prop} (e : f s = .ok ds s0)
    (l : if c = true then ∃ s', forG t b ds s0 = .ret v s' ∧ R s' else ∃ s', forG t b ds s0 = .nx s' ∧ P s') :
    (c = true ∧ ∃ s', sSeq (sFor f t b) h s = .ret v s' ∧ R s') ∨ (c = false ∧ ∃ s', sSeq (sFor f t b) h s = h s' ∧ P s') := by
  have e0 : sFor f t b s = forG t b ds s0 := by
    unfold sFor
    rw [e]
    rfl
  cases c with
  | true =>
    rw [if_pos rfl] at l
    obtain ⟨s', e1, r⟩ := l
    refine .inl ⟨rfl, s', ?_, r⟩
    unfold sSeq
    rw [e0, e1]
    rfl
  | false =>
    rw [if_neg Bool.false_ne_true] at l
    obtain ⟨s', e1, r⟩ := l
    refine .inr ⟨rfl, s', ?_, r⟩
    unfold sSeq
    rw [e0, e1]
    rfl
theorem upto_nat (n : Nat) : upto 0 n = (List.range n).map nat := by
  unfold upto
  refine List.map_congr_left fun k _ => ?_
  show PyData.int (0 + (k : Int)) = .int (k : Int)
  rw [Int.zero_add]
theorem rng_nat {n : Nat} (h : n ≤ 1000000) : rng1 [nat n] = some ((List.range n).map nat) := by
  rw [rng1_i (by omega), Int.toNat_natCast, upto_nat]
theorem range_get {n k x : Nat} (h : (List.range n)[k]? = some x) : k < n ∧ x = k := by
  have h1 : k < n := by
    have := (List.getElem?_eq_some_iff.mp h).1
    rwa [List.length_range] at this
  rw [List.getElem?_range h1] at h
  exact ⟨h1, (Option.some.inj h).symm⟩
/-- names in a slot -/
theorem set_no {z : Sl} (h : NO z) {i : Nat} {d : D} {s : Sts} (e : s[i]? = some z) : tName i d s = some (s.set i (.dat d)) := by
  show setD i d s = _
  unfold setD
  rw [e]
  cases z with
  | un => rfl
  | dat _ => rfl
  | own _ => exact h.elim
  | dic _ => exact h.elim
/-! ### comprehensions over typed lists -/
theorem lc_typed {α : Type} {vs : List Nat} {t : Tg} {elt : M D} {s : Sts} (f : α → D) (g : α → D) {xs : List α} (h : ∀ x ∈ xs, ∃ s1, t (f x) s = some s1 ∧ elt s1 = .ok (g x) s1 ∧ wipeS s1 vs = s) : lcG vs t mYes elt (xs.map f) s = .ok (xs.map g) s := by
  induction xs with
  | nil => rfl
  | cons x r ih =>
    obtain ⟨s1, h1, h2, h3⟩ := h x List.mem_cons_self
    rw [List.map_cons, lcG, h1]
    show (Rs.ok true s1).bind _ = _
    simp only [bind_ok, if_true, h2, h3]
    rw [ih fun y hy => h y (List.mem_cons_of_mem _ hy)]
    rfl
theorem lc_filter {α : Type} {vs : List Nat} {t : Tg} {test : M Bool} {elt : M D} {s : Sts} (f : α → D) (g : α → D) (b : α → Bool) {xs : List α} (h : ∀ x ∈ xs, ∃ s1, t (f x) s = some s1 ∧ test s1 = .ok (b x) s1 ∧ (b x = true → elt s1 = .ok (g x) s1) ∧ wipeS s1 vs = s) : lcG vs t test elt (xs.map f) s = .ok ((xs.filter b).map g) s := by
  induction xs with
  | nil => rfl
  | cons x r ih =>
    obtain ⟨s1, h1, h2, h3, h4⟩ := h x List.mem_cons_self
    have ih := ih fun y hy => h y (List.mem_cons_of_mem _ hy)
    rw [List.map_cons, lcG, h1]
    show (test s1).bind _ = _
    rcases two (b x) with hb | hb
    · rw [h2, hb, List.filter_cons_of_pos hb]
      simp only [bind_ok, if_true, h3 hb, h4]
      rw [ih]
      rfl
    · rw [h2, hb, List.filter_cons_of_neg (by rw [hb]; exact Bool.false_ne_true)]
      simp only [bind_ok, Bool.false_eq_true, if_false, h4]
      rw [ih]
theorem any_typed {α : Type} {vs : List Nat} {t : Tg} {elt : M D} {s : Sts} (f : α → D) (b : α → Bool) {xs : List α} (h : ∀ x ∈ xs, ∃ s1, t (f x) s = some s1 ∧ elt s1 = .ok (.bool (b x)) s1 ∧ wipeS s1 vs = s) : anyG true vs t elt (xs.map f) s = .ok (xs.any b) s := by
  induction xs with
  | nil => rfl
  | cons x r ih =>
    obtain ⟨s1, h1, h2, h3⟩ := h x List.mem_cons_self
    have ih := ih fun y hy => h y (List.mem_cons_of_mem _ hy)
    rw [List.map_cons, anyG, h1, List.any_cons]
    show (elt s1).bind _ = _
    rw [h2]
    rcases two (b x) with hb | hb
    · simp only [bind_ok, hb, if_true, h3, Bool.true_or]
    · simp only [bind_ok, hb, Bool.false_eq_true, if_false, h3, Bool.false_or]; exact ih
end DL

namespace DL
open PySem PySem.Spec L2
open PySem.W (dataLe)
/-! ### parts over texts -/
structure TP where
  k : Option Str
  m : List Str
  n : List (Bool × Str)
  e : List D
structure TS where
  ps : List TP
  l : D
def okS : Option Str → D
  | none => .none
  | some x => .str x
def tnD (t : Bool × Str) : D := .tuple [.str (if t.1 = true then "mark" else "kind"), .str t.2]
def tpD (p : TP) : D := .tuple (okS p.k :: .tuple (p.m.map .str) :: .tuple (p.n.map tnD) :: p.e)
def tsD (s : TS) : D := .tuple [.tuple (s.ps.map tpD), s.l]
abbrev tssD (a : List TS) : D := .tuple (a.map tsD)
def kOf (p : TP) : List Str := p.k.toList ++ (p.n.filter fun t => !t.1).map (·.2)
def mOf (p : TP) : List Str := p.m ++ (p.n.filter fun t => t.1).map (·.2)
def parts (a : List TS) : List TP := a.flatMap (·.ps)
def kAll (a : List TS) : List Str := (parts a).flatMap kOf
def mAll (a : List TS) : List Str := (parts a).flatMap mOf
theorem tp0 (p : TP) : ixD (tpD p) (.int 0) = some (okS p.k) := ix_0 _ _
theorem tp1 (p : TP) : ixD (tpD p) (.int 1) = some (.tuple (p.m.map .str)) := ix_1 _ _ _
theorem tp2 (p : TP) : ixD (tpD p) (.int 2) = some (.tuple (p.n.map tnD)) := ix_2 _ _ _ _
theorem ts0 (s : TS) : ixD (tsD s) (.int 0) = some (.tuple (s.ps.map tpD)) := ix_0 _ _
/-! ### first occurrences -/
def dst (acc : List Str) (x : Str) : List Str := if x ∈ acc then acc else acc ++ [x]
def ded (xs : List Str) : List Str := xs.foldl dst []
theorem ded_snoc (xs : List Str) (x : Str) : ded (xs ++ [x]) = dst (ded xs) x := by
  unfold ded
  rw [List.foldl_append]
  rfl
theorem snoc_ind {α : Type} {P : List α → Prop} (h0 : P []) (h1 : ∀ xs x, P xs → P (xs ++ [x])) (xs : List α) : P xs := by
  have key : ∀ n (xs : List α), xs.length = n → P xs := by
    intro n
    induction n with
    | zero =>
      intro xs h
      rw [List.length_eq_zero_iff.mp h]
      exact h0
    | succ n ih =>
      intro xs h
      have hne : xs ≠ [] := fun z => by rw [z] at h; cases h
      rw [← List.dropLast_concat_getLast hne]
      refine h1 _ _ (ih _ ?_)
      rw [List.length_dropLast, h]
      rfl
  exact key _ xs rfl
theorem mem_ded (xs : List Str) : ∀ y, y ∈ ded xs ↔ y ∈ xs := by
  refine snoc_ind (P := fun xs => ∀ y, y ∈ ded xs ↔ y ∈ xs) (fun y => Iff.rfl) (fun xs x ih y => ?_) xs
  rw [ded_snoc, dst]
  split
  · rename_i h
    rw [ih, List.mem_append, List.mem_singleton]
    exact ⟨.inl, fun z => z.elim id fun e => e ▸ (ih x).mp h⟩
  · rw [List.mem_append, List.mem_append, ih]
theorem nodup_ded (xs : List Str) : (ded xs).Nodup := by
  refine snoc_ind (P := fun xs => (ded xs).Nodup) List.nodup_nil (fun xs x ih => ?_) xs
  rw [ded_snoc, dst]
  split
  · exact ih
  · rename_i h
    rw [List.nodup_append]
    exact ⟨ih, List.nodup_cons.mpr ⟨List.not_mem_nil, List.nodup_nil⟩, fun a ha b hb e => by rw [List.mem_singleton.mp hb] at e; exact h (e ▸ ha)⟩
theorem ded_le (xs : List Str) : (ded xs).length ≤ xs.length := by
  refine snoc_ind (P := fun xs => (ded xs).length ≤ xs.length) (Nat.le_refl _) (fun xs x ih => ?_) xs
  rw [ded_snoc, dst, List.length_append, List.length_singleton]
  split
  · omega
  · rw [List.length_append, List.length_singleton]; omega
/-- the names in an own dict -/
def kd (b : List Str) : List (D × D) := b.map fun x => (.str x, .bool true)
theorem any_kd (b : List Str) (x : Str) : (kd b).any (keyIsS x) = decide (x ∈ b) := by
  unfold kd
  rw [List.any_map]
  induction b with
  | nil => rfl
  | cons y r ih =>
    rw [List.any_cons, ih]
    show (decide (y = x) || _) = _
    by_cases h : y = x
    · rw [decide_eq_true h, h, decide_eq_true List.mem_cons_self]; rfl
    · rw [decide_eq_false h, Bool.false_or]
      have : (x ∈ y :: r) ↔ x ∈ r := by rw [List.mem_cons]; exact ⟨fun z => z.resolve_left fun e => h e.symm, .inr⟩
      simp only [this]
theorem dput_kd (b : List Str) (x : Str) : dput (kd b) x (.bool true) = kd (dst b x) := by
  unfold dput dst
  rw [any_kd]
  by_cases h : x ∈ b
  · rw [if_pos (decide_eq_true h), if_pos h]
    unfold kd
    rw [List.map_map]
    refine List.map_congr_left fun y _ => ?_
    show (if keyIsS x (PyData.str y, PyData.bool true) = true then _ else _) = _
    split <;> rfl
  · rw [if_neg (by rw [decide_eq_false h]; exact Bool.false_ne_true), if_neg h]
    unfold kd
    rw [List.map_append]
    rfl
theorem put_ded (xs : List Str) (x : Str) : dput (kd (ded xs)) x (.bool true) = kd (ded (xs ++ [x])) := by rw [dput_kd, ded_snoc]
theorem len_kd (b : List Str) : (kd b).length = b.length := List.length_map _
theorem kd_lt {xs : List Str} (h : xs.length ≤ 10000) : (kd (ded xs)).length < sizeLine := by
  rw [len_kd]
  exact Nat.lt_of_lt_of_le (by have := ded_le xs; omega : (ded xs).length < 10001) (small_line (by decide))
theorem skeys_kd (b : List Str) : skeys (kd b) = b := by
  unfold kd
  induction b with
  | nil => rfl
  | cons x r ih =>
    show x :: skeys (r.map fun x => (PyData.str x, PyData.bool true)) = _
    rw [ih]
/-! ### loops by what is done -/
theorem for_pre {α : Type} {t : Tg} {body : G} (f : α → D) (I : List α → Sts → Prop) (xs : List α) : ∀ (rest pre : List α) (s : Sts), pre ++ rest = xs → I pre s →
    (∀ pre x s, (∃ post, pre ++ x :: post = xs) → I pre s → ∃ s1 s2, t (f x) s = some s1 ∧ body s1 = .nx s2 ∧ I (pre ++ [x]) s2) → ∃ s', forG t body (rest.map f) s = .nx s' ∧ I xs s'
  | [], pre, s, e, h0, _ => ⟨s, rfl, by rw [← e, List.append_nil]; exact h0⟩
  | x :: r, pre, s, e, h0, step => by
    obtain ⟨s1, s2, e1, e2, h1⟩ := step pre x s ⟨r, e⟩ h0
    obtain ⟨s', q, h2⟩ := for_pre f I xs r (pre ++ [x]) s2 (by rw [← e, List.append_assoc]; rfl) h1 step
    exact ⟨s', by rw [List.map_cons, for_nx e1 e2, q], h2⟩
theorem pre_len {α β : Type} {f : α → List β} {xs pre : List α} {x : α} (h : ∃ post, pre ++ x :: post = xs) : (pre.flatMap f).length + (f x).length ≤ (xs.flatMap f).length := by
  obtain ⟨post, rfl⟩ := h
  rw [List.flatMap_append, List.flatMap_cons, List.length_append, List.length_append]
  omega
theorem flat_snoc {α β : Type} (f : α → List β) (xs : List α) (x : α) : (xs ++ [x]).flatMap f = xs.flatMap f ++ f x := by
  rw [List.flatMap_append, List.flatMap_cons, List.flatMap_nil, List.append_nil]
/-- a comprehension of two generators -/
theorem lc2_typed {α β : Type} {vs vs1 : List Nat} {t : Tg} {fi1 : M (List D)} {t1 : Tg} {elt : M D} {s : Sts} (f : α → D) (g : α → List β) (f1 : β → D) (e : α → β → D) {xs : List α}
    (h : ∀ x ∈ xs, ∃ s1, t (f x) s = some s1 ∧ fi1 s1 = .ok ((g x).map f1) s1 ∧ wipeS s1 vs = s ∧ wipeS s1 vs1 = s1 ∧ ∀ y ∈ g x, ∃ s2, t1 (f1 y) s1 = some s2 ∧ elt s2 = .ok (e x y) s2 ∧ wipeS s2 vs1 = s1) :
    lc2G vs vs1 t fi1 t1 elt (xs.map f) s = .ok (xs.flatMap fun x => (g x).map (e x)) s := by
  induction xs with
  | nil => rfl
  | cons x r ih =>
    obtain ⟨s1, h1, h2, h3, h4, h5⟩ := h x List.mem_cons_self
    rw [List.map_cons, lc2G, h1]
    show (fi1 s1).bind _ = _
    rw [h2]
    simp only [bind_ok]
    rw [h4, lc_typed f1 (e x) h5]
    simp only [bind_ok]
    rw [h3, ih fun y hy => h y (List.mem_cons_of_mem _ hy)]
    rfl
theorem mLc_ok {vs : List Nat} {fi : M (List D)} {tg : Tg} {test : M Bool} {elt : M D} {s s1 s2 s' : Sts} {ds xs : List D} (h : fi s = .ok ds s1) (no : noOwn vs s1 = true) (hl : lcG vs tg test elt ds (wipeS s1 vs) = .ok xs s2) (hz : xs.length ≤ sizeLine) (hp : putS s1 s2 vs = s') : mLc vs fi tg test elt s = .ok xs s' := by
  unfold mLc
  rw [h]
  simp only [bind_ok]
  rw [if_pos no, hl]
  show (if xs.length ≤ sizeLine then Rs.ok xs (putS s1 s2 vs) else Rs.bad) = _
  rw [if_pos hz, hp]
theorem mLc2_ok {vs vs1 : List Nat} {fi fi1 : M (List D)} {tg t1 : Tg} {elt : M D} {s s1 s2 s' : Sts} {ds xs : List D} (h : fi s = .ok ds s1) (no : noOwn vs s1 = true) (hl : lc2G vs vs1 tg fi1 t1 elt ds (wipeS s1 vs) = .ok xs s2) (hz : xs.length ≤ sizeLine) (hp : putS s1 s2 vs = s') : mLc2 vs vs1 fi tg fi1 t1 elt s = .ok xs s' := by
  unfold mLc2
  rw [h]
  simp only [bind_ok]
  rw [if_pos no, hl]
  show (if xs.length ≤ sizeLine then Rs.ok xs (putS s1 s2 vs) else Rs.bad) = _
  rw [if_pos hz, hp]
theorem sfor_nx {f : M (List D)} {t : Tg} {b : G} {s s0 s' : Sts} {ds : List D} (e : f s = .ok ds s0) (l : forG t b ds s0 = .nx s') : sFor f t b s = .nx s' := by
  unfold sFor
  rw [e]
  exact l
theorem sz_of {α : Type} {xs : List α} (h : xs.length ≤ 100000) : xs.length ≤ sizeLine := small_line h
theorem map_flat {α β γ : Type} (f : α → List β) (g : β → γ) (xs : List α) : (xs.flatMap f).map g = xs.flatMap fun x => (f x).map g := List.map_flatMap
theorem all_parts_eq {a b : List TS} (h : a.length + b.length ≤ 1000) (hp : (parts (a ++ b)).length ≤ 10000) : F_all_parts [.dat (tssD a), .dat (tssD b)] = .ok (.list ((parts (a ++ b)).map tpD)) [.dat (tssD a), .dat (tssD b)] := by
  refine run_of (st := [.dat (tssD a), .dat (tssD b), .un, .un]) ⟨[.dat (tssD a), .dat (tssD b), .un, .un], ?_, rfl⟩
  have e1 : addD (tssD a) (tssD b) = some (.tuple ((a ++ b).map tsD)) := by
    rw [List.map_append]
    exact addT_sm (by rw [List.length_map, List.length_map]; omega)
  have e2 := lc2_typed (vs := [2, 3]) (vs1 := [3]) (t := tName 2) (fi1 := mMap (mMap2 (mVar 2) (mC (.int 0)) ixD) items) (t1 := tName 3) (elt := mVar 3) (s := [.dat (tssD a), .dat (tssD b), .un, .un]) tsD (·.ps) tpD (fun _ p => tpD p) (xs := a ++ b) (fun x _ => by
    refine ⟨[.dat (tssD a), .dat (tssD b), .dat (tsD x), .un], rfl, ?_, rfl, rfl, fun y _ => ⟨[.dat (tssD a), .dat (tssD b), .dat (tsD x), .dat (tpD y)], rfl, rfl, rfl⟩⟩
    simp only [mVar, mC, mMap, mMap2, lift_some, lift_none, bind_ok, bind_err, bind_bad, mCons, mNil, mT, asB_bool, asB, mAnd, mOr, mNot, andV_eq, orV_eq, mNotV, mIf, chain_eq, chK_b, mCall, sSeq, sNext, sIf, sRet, sRetN, sDrop, sAsg, sRaise, sFor, sApp, sOwn, setO, ownAt, mOwn1, mPop0, sFrz, frz, sAug, ex_ok, ex_err, ex_bad, then_nx, then_ret, then_brk, then_ct, then_err, optG_some, optG_none, tName, setD, tTupG, tsCons, tsNil, Option.bind_some, List.getElem?_cons_zero, List.getElem?_cons_succ, List.set_cons_zero, List.set_cons_succ, List.length_cons, List.length_nil, Bool.not_true, Bool.not_false, Bool.false_eq_true, if_true, if_false, reduceIte, List.map_cons, List.map_nil, List.cons_append, List.nil_append, List.replicate, Nat.reduceSub, Nat.reduceAdd, Nat.reduceEqDiff, Option.map_some, Option.map_none, outs, Int.reduceAdd, Int.reduceSub, Int.reduceBEq, Int.reduceLT, Int.reduceLE, decide_true, decide_false, beq_self_eq_true, cast_0, cast_1, cast_2, cast_3, cast_4, cast_5, isi_str, isi_tup, addD_i, addI_i, subD_i, leD_i, leD_s, ltD_i, ltD_s, gtD_i, geD_i, eqD_i, neD_i, eqD_b, neD_b, eqD_s, lenD_l, lenD_t, absD_i, intD_i, tupD_l, tupD_t, lstD_l, lstD_t, mkT_0, mkT_1, mkT_2, mkT_3, mkL_0, mkL_1, sized_0, sized_1, ix_0, ix_1, ix_2, isT_t, isT_s, isT_l, isT_i, isT_n, isS_s, isS_t, isS_l, isS_i, isS_n, neD_s, Kd.inj, Mk.inj, Lk.inj, s_km, s_mk, List.length_append, L_c, L_i, L_n, L_a, L_cc, L_ic, L_ii, L_nc, L_ni, L_nn, L_ac, L_ai, L_an, L_aa, ts0, items])
  rw [← map_flat (fun x : TS => x.ps) tpD] at e2
  have e3 : mLc2 [2, 3] [3] (mMap (mMap2 (mVar 0) (mVar 1) addD) items) (tName 2) (mMap (mMap2 (mVar 2) (mC (.int 0)) ixD) items) (tName 3) (mVar 3) [.dat (tssD a), .dat (tssD b), .un, .un] = .ok ((parts (a ++ b)).map tpD) [.dat (tssD a), .dat (tssD b), .un, .un] :=
    mLc2_ok (by simp only [mVar, mC, mMap, mMap2, lift_some, lift_none, bind_ok, bind_err, bind_bad, mCons, mNil, mT, asB_bool, asB, mAnd, mOr, mNot, andV_eq, orV_eq, mNotV, mIf, chain_eq, chK_b, mCall, sSeq, sNext, sIf, sRet, sRetN, sDrop, sAsg, sRaise, sFor, sApp, sOwn, setO, ownAt, mOwn1, mPop0, sFrz, frz, sAug, ex_ok, ex_err, ex_bad, then_nx, then_ret, then_brk, then_ct, then_err, optG_some, optG_none, tName, setD, tTupG, tsCons, tsNil, Option.bind_some, List.getElem?_cons_zero, List.getElem?_cons_succ, List.set_cons_zero, List.set_cons_succ, List.length_cons, List.length_nil, Bool.not_true, Bool.not_false, Bool.false_eq_true, if_true, if_false, reduceIte, List.map_cons, List.map_nil, List.cons_append, List.nil_append, List.replicate, Nat.reduceSub, Nat.reduceAdd, Nat.reduceEqDiff, Option.map_some, Option.map_none, outs, Int.reduceAdd, Int.reduceSub, Int.reduceBEq, Int.reduceLT, Int.reduceLE, decide_true, decide_false, beq_self_eq_true, cast_0, cast_1, cast_2, cast_3, cast_4, cast_5, isi_str, isi_tup, addD_i, addI_i, subD_i, leD_i, leD_s, ltD_i, ltD_s, gtD_i, geD_i, eqD_i, neD_i, eqD_b, neD_b, eqD_s, lenD_l, lenD_t, absD_i, intD_i, tupD_l, tupD_t, lstD_l, lstD_t, mkT_0, mkT_1, mkT_2, mkT_3, mkL_0, mkL_1, sized_0, sized_1, ix_0, ix_1, ix_2, isT_t, isT_s, isT_l, isT_i, isT_n, isS_s, isS_t, isS_l, isS_i, isS_n, neD_s, Kd.inj, Mk.inj, Lk.inj, s_km, s_mk, List.length_append, L_c, L_i, L_n, L_a, L_cc, L_ic, L_ii, L_nc, L_ni, L_nn, L_ac, L_ai, L_an, L_aa, e1, items]; rfl) rfl e2 (by rw [List.length_map]; exact small_line (by show (parts (a ++ b)).length ≤ 100000; omega)) rfl
  unfold g_all_parts
  simp only [mVar, mC, mMap, mMap2, lift_some, lift_none, bind_ok, bind_err, bind_bad, mCons, mNil, mT, asB_bool, asB, mAnd, mOr, mNot, andV_eq, orV_eq, mNotV, mIf, chain_eq, chK_b, mCall, sSeq, sNext, sIf, sRet, sRetN, sDrop, sAsg, sRaise, sFor, sApp, sOwn, setO, ownAt, mOwn1, mPop0, sFrz, frz, sAug, ex_ok, ex_err, ex_bad, then_nx, then_ret, then_brk, then_ct, then_err, optG_some, optG_none, tName, setD, tTupG, tsCons, tsNil, Option.bind_some, List.getElem?_cons_zero, List.getElem?_cons_succ, List.set_cons_zero, List.set_cons_succ, List.length_cons, List.length_nil, Bool.not_true, Bool.not_false, Bool.false_eq_true, if_true, if_false, reduceIte, List.map_cons, List.map_nil, List.cons_append, List.nil_append, List.replicate, Nat.reduceSub, Nat.reduceAdd, Nat.reduceEqDiff, Option.map_some, Option.map_none, outs, Int.reduceAdd, Int.reduceSub, Int.reduceBEq, Int.reduceLT, Int.reduceLE, decide_true, decide_false, beq_self_eq_true, cast_0, cast_1, cast_2, cast_3, cast_4, cast_5, isi_str, isi_tup, addD_i, addI_i, subD_i, leD_i, leD_s, ltD_i, ltD_s, gtD_i, geD_i, eqD_i, neD_i, eqD_b, neD_b, eqD_s, lenD_l, lenD_t, absD_i, intD_i, tupD_l, tupD_t, lstD_l, lstD_t, mkT_0, mkT_1, mkT_2, mkT_3, mkL_0, mkL_1, sized_0, sized_1, ix_0, ix_1, ix_2, isT_t, isT_s, isT_l, isT_i, isT_n, isS_s, isS_t, isS_l, isS_i, isS_n, neD_s, Kd.inj, Mk.inj, Lk.inj, s_km, s_mk, List.length_append, L_c, L_i, L_n, L_a, L_cc, L_ic, L_ii, L_nc, L_ni, L_nn, L_ac, L_ai, L_an, L_aa, mL, e3]
/-! ### used names -/
section
variable {a b : List TS}
theorem uk_inner {A B d3 : D} {n : List (Bool × Str)} : ∀ (N : List Str) (z4 z5 : Sl), NO z4 → NO z5 → N.length + n.length ≤ 10000 →
    ∃ z4' z5', NO z4' ∧ NO z5' ∧ forG (tTupG 2 (tsCons (tName 4) (tsCons (tName 5) tsNil))) b_used_kinds_1 (n.map tnD) [.dat A, .dat B, .dic (.k (kd (ded N))), .dat d3, z4, z5] = .nx [.dat A, .dat B, .dic (.k (kd (ded (N ++ (n.filter fun t => !t.1).map (·.2))))), .dat d3, z4', z5'] := by
  induction n with
  | nil => intro N z4 z5 h4 h5 _; exact ⟨z4, z5, h4, h5, by simp only [List.filter_nil, List.map_nil, List.append_nil]; rfl⟩
  | cons t r ih =>
    intro N z4 z5 h4 h5 hl
    rw [List.length_cons] at hl
    obtain ⟨m, x⟩ := t
    have e1 : tTupG 2 (tsCons (tName 4) (tsCons (tName 5) tsNil)) (tnD (m, x)) [.dat A, .dat B, .dic (.k (kd (ded N))), .dat d3, z4, z5] = some [.dat A, .dat B, .dic (.k (kd (ded N))), .dat d3, .dat (.str (if m = true then "mark" else "kind")), .dat (.str x)] := by
      cases z4 <;> first | exact h4.elim | (cases z5 <;> first | exact h5.elim | rfl)
    cases m with
    | true =>
      obtain ⟨z4', z5', k4, k5, q⟩ := ih N (.dat (.str "mark")) (.dat (.str x)) trivial trivial (by omega)
      refine ⟨z4', z5', k4, k5, ?_⟩
      rw [List.map_cons, for_nx (s2 := [.dat A, .dat B, .dic (.k (kd (ded N))), .dat d3, .dat (.str "mark"), .dat (.str x)]) e1 (by unfold b_used_kinds_1; simp only [mVar, mC, mMap, mMap2, lift_some, lift_none, bind_ok, bind_err, bind_bad, mCons, mNil, mT, asB_bool, asB, mAnd, mOr, mNot, andV_eq, orV_eq, mNotV, mIf, chain_eq, chK_b, mCall, sSeq, sNext, sIf, sRet, sRetN, sDrop, sAsg, sRaise, sFor, sApp, sOwn, setO, ownAt, mOwn1, mPop0, sFrz, frz, sAug, ex_ok, ex_err, ex_bad, then_nx, then_ret, then_brk, then_ct, then_err, optG_some, optG_none, tName, setD, tTupG, tsCons, tsNil, Option.bind_some, List.getElem?_cons_zero, List.getElem?_cons_succ, List.set_cons_zero, List.set_cons_succ, List.length_cons, List.length_nil, Bool.not_true, Bool.not_false, Bool.false_eq_true, if_true, if_false, reduceIte, List.map_cons, List.map_nil, List.cons_append, List.nil_append, List.replicate, Nat.reduceSub, Nat.reduceAdd, Nat.reduceEqDiff, Option.map_some, Option.map_none, outs, Int.reduceAdd, Int.reduceSub, Int.reduceBEq, Int.reduceLT, Int.reduceLE, decide_true, decide_false, beq_self_eq_true, cast_0, cast_1, cast_2, cast_3, cast_4, cast_5, isi_str, isi_tup, addD_i, addI_i, subD_i, leD_i, leD_s, ltD_i, ltD_s, gtD_i, geD_i, eqD_i, neD_i, eqD_b, neD_b, eqD_s, lenD_l, lenD_t, absD_i, intD_i, tupD_l, tupD_t, lstD_l, lstD_t, mkT_0, mkT_1, mkT_2, mkT_3, mkL_0, mkL_1, sized_0, sized_1, ix_0, ix_1, ix_2, isT_t, isT_s, isT_l, isT_i, isT_n, isS_s, isS_t, isS_l, isS_i, isS_n, neD_s, Kd.inj, Mk.inj, Lk.inj, s_km, s_mk, List.length_append, L_c, L_i, L_n, L_a, L_cc, L_ic, L_ii, L_nc, L_ni, L_nn, L_ac, L_ai, L_an, L_aa, eqD_mk, s_mk]), q]
      rfl
    | false =>
      obtain ⟨z4', z5', k4, k5, q⟩ := ih (N ++ [x]) (.dat (.str "kind")) (.dat (.str x)) trivial trivial (by rw [List.length_append, List.length_singleton]; omega)
      refine ⟨z4', z5', k4, k5, ?_⟩
      have e2 : b_used_kinds_1 [.dat A, .dat B, .dic (.k (kd (ded N))), .dat d3, .dat (.str "kind"), .dat (.str x)] = .nx [.dat A, .dat B, .dic (.k (kd (ded (N ++ [x])))), .dat d3, .dat (.str "kind"), .dat (.str x)] := by
        have hz := kd_lt (xs := N) (by omega)
        unfold b_used_kinds_1 sPutK
        simp only [mVar, mC, mMap, mMap2, lift_some, lift_none, bind_ok, bind_err, bind_bad, mCons, mNil, mT, asB_bool, asB, mAnd, mOr, mNot, andV_eq, orV_eq, mNotV, mIf, chain_eq, chK_b, mCall, sSeq, sNext, sIf, sRet, sRetN, sDrop, sAsg, sRaise, sFor, sApp, sOwn, setO, ownAt, mOwn1, mPop0, sFrz, frz, sAug, ex_ok, ex_err, ex_bad, then_nx, then_ret, then_brk, then_ct, then_err, optG_some, optG_none, tName, setD, tTupG, tsCons, tsNil, Option.bind_some, List.getElem?_cons_zero, List.getElem?_cons_succ, List.set_cons_zero, List.set_cons_succ, List.length_cons, List.length_nil, Bool.not_true, Bool.not_false, Bool.false_eq_true, if_true, if_false, reduceIte, List.map_cons, List.map_nil, List.cons_append, List.nil_append, List.replicate, Nat.reduceSub, Nat.reduceAdd, Nat.reduceEqDiff, Option.map_some, Option.map_none, outs, Int.reduceAdd, Int.reduceSub, Int.reduceBEq, Int.reduceLT, Int.reduceLE, decide_true, decide_false, beq_self_eq_true, cast_0, cast_1, cast_2, cast_3, cast_4, cast_5, isi_str, isi_tup, addD_i, addI_i, subD_i, leD_i, leD_s, ltD_i, ltD_s, gtD_i, geD_i, eqD_i, neD_i, eqD_b, neD_b, eqD_s, lenD_l, lenD_t, absD_i, intD_i, tupD_l, tupD_t, lstD_l, lstD_t, mkT_0, mkT_1, mkT_2, mkT_3, mkL_0, mkL_1, sized_0, sized_1, ix_0, ix_1, ix_2, isT_t, isT_s, isT_l, isT_i, isT_n, isS_s, isS_t, isS_l, isS_i, isS_n, neD_s, Kd.inj, Mk.inj, Lk.inj, s_km, s_mk, List.length_append, L_c, L_i, L_n, L_a, L_cc, L_ic, L_ii, L_nc, L_ni, L_nn, L_ac, L_ai, L_an, L_aa, dkAt, eqD_kk, hz, put_ded]
      rw [List.map_cons, for_nx e1 e2, q, List.append_assoc]
      rfl
theorem uk_body {A B : D} {N : List Str} {p : TP} {z4 z5 : Sl} (h4 : NO z4) (h5 : NO z5) (hl : N.length + (kOf p).length ≤ 10000) (hn : N.length + 1 + p.n.length ≤ 10000) :
    ∃ z4' z5', NO z4' ∧ NO z5' ∧ b_used_kinds_2 [.dat A, .dat B, .dic (.k (kd (ded N))), .dat (tpD p), z4, z5] = .nx [.dat A, .dat B, .dic (.k (kd (ded (N ++ kOf p)))), .dat (tpD p), z4', z5'] := by
  have hz := kd_lt (xs := N) (by omega)
  have key : ∀ N1 : List Str, N1.length ≤ N.length + 1 → ∃ z4' z5', NO z4' ∧ NO z5' ∧ sFor (mMap (mMap2 (mVar 3) (mC (.int 2)) ixD) items) (tTupG 2 (tsCons (tName 4) (tsCons (tName 5) tsNil))) b_used_kinds_1 [.dat A, .dat B, .dic (.k (kd (ded N1))), .dat (tpD p), z4, z5] = .nx [.dat A, .dat B, .dic (.k (kd (ded (N1 ++ (p.n.filter fun t => !t.1).map (·.2))))), .dat (tpD p), z4', z5'] := fun N1 h1 => by
    obtain ⟨z4', z5', k4, k5, q⟩ := uk_inner (A := A) (B := B) (d3 := tpD p) (n := p.n) N1 z4 z5 h4 h5 (by omega)
    exact ⟨z4', z5', k4, k5, sfor_nx (by simp only [mVar, mC, mMap, mMap2, lift_some, lift_none, bind_ok, bind_err, bind_bad, mCons, mNil, mT, asB_bool, asB, mAnd, mOr, mNot, andV_eq, orV_eq, mNotV, mIf, chain_eq, chK_b, mCall, sSeq, sNext, sIf, sRet, sRetN, sDrop, sAsg, sRaise, sFor, sApp, sOwn, setO, ownAt, mOwn1, mPop0, sFrz, frz, sAug, ex_ok, ex_err, ex_bad, then_nx, then_ret, then_brk, then_ct, then_err, optG_some, optG_none, tName, setD, tTupG, tsCons, tsNil, Option.bind_some, List.getElem?_cons_zero, List.getElem?_cons_succ, List.set_cons_zero, List.set_cons_succ, List.length_cons, List.length_nil, Bool.not_true, Bool.not_false, Bool.false_eq_true, if_true, if_false, reduceIte, List.map_cons, List.map_nil, List.cons_append, List.nil_append, List.replicate, Nat.reduceSub, Nat.reduceAdd, Nat.reduceEqDiff, Option.map_some, Option.map_none, outs, Int.reduceAdd, Int.reduceSub, Int.reduceBEq, Int.reduceLT, Int.reduceLE, decide_true, decide_false, beq_self_eq_true, cast_0, cast_1, cast_2, cast_3, cast_4, cast_5, isi_str, isi_tup, addD_i, addI_i, subD_i, leD_i, leD_s, ltD_i, ltD_s, gtD_i, geD_i, eqD_i, neD_i, eqD_b, neD_b, eqD_s, lenD_l, lenD_t, absD_i, intD_i, tupD_l, tupD_t, lstD_l, lstD_t, mkT_0, mkT_1, mkT_2, mkT_3, mkL_0, mkL_1, sized_0, sized_1, ix_0, ix_1, ix_2, isT_t, isT_s, isT_l, isT_i, isT_n, isS_s, isS_t, isS_l, isS_i, isS_n, neD_s, Kd.inj, Mk.inj, Lk.inj, s_km, s_mk, List.length_append, L_c, L_i, L_n, L_a, L_cc, L_ic, L_ii, L_nc, L_ni, L_nn, L_ac, L_ai, L_an, L_aa, tp2, items]) q⟩
  cases hk : p.k with
  | none =>
    obtain ⟨z4', z5', k4, k5, q⟩ := key N (by omega)
    refine ⟨z4', z5', k4, k5, ?_⟩
    unfold b_used_kinds_2
    refine (seq_nx (s1 := [.dat A, .dat B, .dic (.k (kd (ded N))), .dat (tpD p), z4, z5]) ?_).trans ?_
    · simp only [mVar, mC, mMap, mMap2, lift_some, lift_none, bind_ok, bind_err, bind_bad, mCons, mNil, mT, asB_bool, asB, mAnd, mOr, mNot, andV_eq, orV_eq, mNotV, mIf, chain_eq, chK_b, mCall, sSeq, sNext, sIf, sRet, sRetN, sDrop, sAsg, sRaise, sFor, sApp, sOwn, setO, ownAt, mOwn1, mPop0, sFrz, frz, sAug, ex_ok, ex_err, ex_bad, then_nx, then_ret, then_brk, then_ct, then_err, optG_some, optG_none, tName, setD, tTupG, tsCons, tsNil, Option.bind_some, List.getElem?_cons_zero, List.getElem?_cons_succ, List.set_cons_zero, List.set_cons_succ, List.length_cons, List.length_nil, Bool.not_true, Bool.not_false, Bool.false_eq_true, if_true, if_false, reduceIte, List.map_cons, List.map_nil, List.cons_append, List.nil_append, List.replicate, Nat.reduceSub, Nat.reduceAdd, Nat.reduceEqDiff, Option.map_some, Option.map_none, outs, Int.reduceAdd, Int.reduceSub, Int.reduceBEq, Int.reduceLT, Int.reduceLE, decide_true, decide_false, beq_self_eq_true, cast_0, cast_1, cast_2, cast_3, cast_4, cast_5, isi_str, isi_tup, addD_i, addI_i, subD_i, leD_i, leD_s, ltD_i, ltD_s, gtD_i, geD_i, eqD_i, neD_i, eqD_b, neD_b, eqD_s, lenD_l, lenD_t, absD_i, intD_i, tupD_l, tupD_t, lstD_l, lstD_t, mkT_0, mkT_1, mkT_2, mkT_3, mkL_0, mkL_1, sized_0, sized_1, ix_0, ix_1, ix_2, isT_t, isT_s, isT_l, isT_i, isT_n, isS_s, isS_t, isS_l, isS_i, isS_n, neD_s, Kd.inj, Mk.inj, Lk.inj, s_km, s_mk, List.length_append, L_c, L_i, L_n, L_a, L_cc, L_ic, L_ii, L_nc, L_ni, L_nn, L_ac, L_ai, L_an, L_aa, tp0, hk, okS, notNone, isNon]
    rw [q]
    unfold kOf
    rw [hk]
    rfl
  | some x =>
    obtain ⟨z4', z5', k4, k5, q⟩ := key (N ++ [x]) (by rw [List.length_append, List.length_singleton]; omega)
    refine ⟨z4', z5', k4, k5, ?_⟩
    unfold b_used_kinds_2
    refine (seq_nx (s1 := [.dat A, .dat B, .dic (.k (kd (ded (N ++ [x])))), .dat (tpD p), z4, z5]) ?_).trans ?_
    · unfold sPutK
      simp only [mVar, mC, mMap, mMap2, lift_some, lift_none, bind_ok, bind_err, bind_bad, mCons, mNil, mT, asB_bool, asB, mAnd, mOr, mNot, andV_eq, orV_eq, mNotV, mIf, chain_eq, chK_b, mCall, sSeq, sNext, sIf, sRet, sRetN, sDrop, sAsg, sRaise, sFor, sApp, sOwn, setO, ownAt, mOwn1, mPop0, sFrz, frz, sAug, ex_ok, ex_err, ex_bad, then_nx, then_ret, then_brk, then_ct, then_err, optG_some, optG_none, tName, setD, tTupG, tsCons, tsNil, Option.bind_some, List.getElem?_cons_zero, List.getElem?_cons_succ, List.set_cons_zero, List.set_cons_succ, List.length_cons, List.length_nil, Bool.not_true, Bool.not_false, Bool.false_eq_true, if_true, if_false, reduceIte, List.map_cons, List.map_nil, List.cons_append, List.nil_append, List.replicate, Nat.reduceSub, Nat.reduceAdd, Nat.reduceEqDiff, Option.map_some, Option.map_none, outs, Int.reduceAdd, Int.reduceSub, Int.reduceBEq, Int.reduceLT, Int.reduceLE, decide_true, decide_false, beq_self_eq_true, cast_0, cast_1, cast_2, cast_3, cast_4, cast_5, isi_str, isi_tup, addD_i, addI_i, subD_i, leD_i, leD_s, ltD_i, ltD_s, gtD_i, geD_i, eqD_i, neD_i, eqD_b, neD_b, eqD_s, lenD_l, lenD_t, absD_i, intD_i, tupD_l, tupD_t, lstD_l, lstD_t, mkT_0, mkT_1, mkT_2, mkT_3, mkL_0, mkL_1, sized_0, sized_1, ix_0, ix_1, ix_2, isT_t, isT_s, isT_l, isT_i, isT_n, isS_s, isS_t, isS_l, isS_i, isS_n, neD_s, Kd.inj, Mk.inj, Lk.inj, s_km, s_mk, List.length_append, L_c, L_i, L_n, L_a, L_cc, L_ic, L_ii, L_nc, L_ni, L_nn, L_ac, L_ai, L_an, L_aa, tp0, hk, okS, notNone, isNon, dkAt, hz, put_ded]
    rw [q, List.append_assoc]
    unfold kOf
    rw [hk]
    rfl
/-- bounds of what is read -/
structure Bd1 (a b : List TS) : Prop where
  l : a.length + b.length ≤ 1000
  p : (parts (a ++ b)).length ≤ 1000
  k : (kAll (a ++ b)).length ≤ 1000
  m : (mAll (a ++ b)).length ≤ 1000
  n : ∀ p ∈ parts (a ++ b), p.n.length ≤ 100
abbrev skn (a : List TS) : List Str := (ded (kAll a)).mergeSort leS
abbrev smn (a : List TS) : List Str := (ded (mAll a)).mergeSort leS
theorem mem_pre {α : Type} {xs pre : List α} {x : α} (h : ∃ post, pre ++ x :: post = xs) : x ∈ xs := by
  obtain ⟨post, rfl⟩ := h
  exact List.mem_append_right _ List.mem_cons_self
theorem used_kinds_eq (h : Bd1 a b) : F_used_kinds [.dat (tssD a), .dat (tssD b)] = .ok (.list ((skn (a ++ b)).map .str)) [.dat (tssD a), .dat (tssD b)] := by
  have ap := all_parts_eq h.l (by have := h.p; omega)
  obtain ⟨s', q, z3, z4, z5, n3, n4, n5, rfl⟩ := for_pre (t := tName 3) (body := b_used_kinds_2) tpD (fun pre s => ∃ z3 z4 z5, NO z3 ∧ NO z4 ∧ NO z5 ∧ s = [.dat (tssD a), .dat (tssD b), .dic (.k (kd (ded (pre.flatMap kOf)))), z3, z4, z5]) (parts (a ++ b)) (parts (a ++ b)) []
    [.dat (tssD a), .dat (tssD b), .dic (.k (kd (ded []))), .un, .un, .un] rfl ⟨.un, .un, .un, trivial, trivial, trivial, rfl⟩ (fun pre p s hx => by
      rintro ⟨z3, z4, z5, n3, n4, n5, rfl⟩
      have l1 := pre_len (f := kOf) hx
      have l2 := h.k
      have l3 := h.n p (mem_pre hx)
      obtain ⟨z4', z5', k4, k5, e⟩ := uk_body (A := tssD a) (B := tssD b) (N := pre.flatMap kOf) (p := p) n4 n5 (by show _ ≤ _; have : (pre.flatMap kOf).length + (kOf p).length ≤ (kAll (a ++ b)).length := l1; omega) (by have : (pre.flatMap kOf).length + (kOf p).length ≤ (kAll (a ++ b)).length := l1; omega)
      exact ⟨_, _, set_no n3 rfl, e, .dat (tpD p), z4', z5', trivial, k4, k5, by rw [flat_snoc]⟩)
  refine run_of (st := [.dat (tssD a), .dat (tssD b), .un, .un, .un, .un]) ⟨[.dat (tssD a), .dat (tssD b), .dic (.k (kd (ded (kAll (a ++ b))))), z3, z4, z5], ?_, rfl⟩
  unfold g_used_kinds
  refine (seq_nx (s1 := [.dat (tssD a), .dat (tssD b), .dic (.k (kd (ded []))), .un, .un, .un]) rfl).trans ?_
  refine (seq_nx (s1 := [.dat (tssD a), .dat (tssD b), .dic (.k (kd (ded (kAll (a ++ b))))), z3, z4, z5]) (sfor_nx ?_ q)).trans ?_
  · simp only [mVar, mC, mMap, mMap2, lift_some, lift_none, bind_ok, bind_err, bind_bad, mCons, mNil, mT, asB_bool, asB, mAnd, mOr, mNot, andV_eq, orV_eq, mNotV, mIf, chain_eq, chK_b, mCall, sSeq, sNext, sIf, sRet, sRetN, sDrop, sAsg, sRaise, sFor, sApp, sOwn, setO, ownAt, mOwn1, mPop0, sFrz, frz, sAug, ex_ok, ex_err, ex_bad, then_nx, then_ret, then_brk, then_ct, then_err, optG_some, optG_none, tName, setD, tTupG, tsCons, tsNil, Option.bind_some, List.getElem?_cons_zero, List.getElem?_cons_succ, List.set_cons_zero, List.set_cons_succ, List.length_cons, List.length_nil, Bool.not_true, Bool.not_false, Bool.false_eq_true, if_true, if_false, reduceIte, List.map_cons, List.map_nil, List.cons_append, List.nil_append, List.replicate, Nat.reduceSub, Nat.reduceAdd, Nat.reduceEqDiff, Option.map_some, Option.map_none, outs, Int.reduceAdd, Int.reduceSub, Int.reduceBEq, Int.reduceLT, Int.reduceLE, decide_true, decide_false, beq_self_eq_true, cast_0, cast_1, cast_2, cast_3, cast_4, cast_5, isi_str, isi_tup, addD_i, addI_i, subD_i, leD_i, leD_s, ltD_i, ltD_s, gtD_i, geD_i, eqD_i, neD_i, eqD_b, neD_b, eqD_s, lenD_l, lenD_t, absD_i, intD_i, tupD_l, tupD_t, lstD_l, lstD_t, mkT_0, mkT_1, mkT_2, mkT_3, mkL_0, mkL_1, sized_0, sized_1, ix_0, ix_1, ix_2, isT_t, isT_s, isT_l, isT_i, isT_n, isS_s, isS_t, isS_l, isS_i, isS_n, neD_s, Kd.inj, Mk.inj, Lk.inj, s_km, s_mk, List.length_append, L_c, L_i, L_n, L_a, L_cc, L_ic, L_ii, L_nc, L_ni, L_nn, L_ac, L_ai, L_an, L_aa, ap, items]
  · unfold sRet mL mSortK
    simp only [mVar, mC, mMap, mMap2, lift_some, lift_none, bind_ok, bind_err, bind_bad, mCons, mNil, mT, asB_bool, asB, mAnd, mOr, mNot, andV_eq, orV_eq, mNotV, mIf, chain_eq, chK_b, mCall, sSeq, sNext, sIf, sRet, sRetN, sDrop, sAsg, sRaise, sFor, sApp, sOwn, setO, ownAt, mOwn1, mPop0, sFrz, frz, sAug, ex_ok, ex_err, ex_bad, then_nx, then_ret, then_brk, then_ct, then_err, optG_some, optG_none, tName, setD, tTupG, tsCons, tsNil, Option.bind_some, List.getElem?_cons_zero, List.getElem?_cons_succ, List.set_cons_zero, List.set_cons_succ, List.length_cons, List.length_nil, Bool.not_true, Bool.not_false, Bool.false_eq_true, if_true, if_false, reduceIte, List.map_cons, List.map_nil, List.cons_append, List.nil_append, List.replicate, Nat.reduceSub, Nat.reduceAdd, Nat.reduceEqDiff, Option.map_some, Option.map_none, outs, Int.reduceAdd, Int.reduceSub, Int.reduceBEq, Int.reduceLT, Int.reduceLE, decide_true, decide_false, beq_self_eq_true, cast_0, cast_1, cast_2, cast_3, cast_4, cast_5, isi_str, isi_tup, addD_i, addI_i, subD_i, leD_i, leD_s, ltD_i, ltD_s, gtD_i, geD_i, eqD_i, neD_i, eqD_b, neD_b, eqD_s, lenD_l, lenD_t, absD_i, intD_i, tupD_l, tupD_t, lstD_l, lstD_t, mkT_0, mkT_1, mkT_2, mkT_3, mkL_0, mkL_1, sized_0, sized_1, ix_0, ix_1, ix_2, isT_t, isT_s, isT_l, isT_i, isT_n, isS_s, isS_t, isS_l, isS_i, isS_n, neD_s, Kd.inj, Mk.inj, Lk.inj, s_km, s_mk, List.length_append, L_c, L_i, L_n, L_a, L_cc, L_ic, L_ii, L_nc, L_ni, L_nn, L_ac, L_ai, L_an, L_aa, dkAt, skeys_kd]
theorem um_inner {A B d3 : D} {n : List (Bool × Str)} : ∀ (N : List Str) (z4 z5 : Sl), NO z4 → NO z5 → N.length + n.length ≤ 10000 →
    ∃ z4' z5', NO z4' ∧ NO z5' ∧ forG (tTupG 2 (tsCons (tName 5) (tsCons (tName 4) tsNil))) b_used_marks_2 (n.map tnD) [.dat A, .dat B, .dic (.k (kd (ded N))), .dat d3, z4, z5] = .nx [.dat A, .dat B, .dic (.k (kd (ded (N ++ (n.filter fun t => t.1).map (·.2))))), .dat d3, z4', z5'] := by
  induction n with
  | nil => intro N z4 z5 h4 h5 _; exact ⟨z4, z5, h4, h5, by simp only [List.filter_nil, List.map_nil, List.append_nil]; rfl⟩
  | cons t r ih =>
    intro N z4 z5 h4 h5 hl
    rw [List.length_cons] at hl
    obtain ⟨m, x⟩ := t
    have e1 : tTupG 2 (tsCons (tName 5) (tsCons (tName 4) tsNil)) (tnD (m, x)) [.dat A, .dat B, .dic (.k (kd (ded N))), .dat d3, z4, z5] = some [.dat A, .dat B, .dic (.k (kd (ded N))), .dat d3, .dat (.str x), .dat (.str (if m = true then "mark" else "kind"))] := by
      cases z4 <;> first | exact h4.elim | (cases z5 <;> first | exact h5.elim | rfl)
    cases m with
    | false =>
      obtain ⟨z4', z5', k4, k5, q⟩ := ih N (.dat (.str x)) (.dat (.str "kind")) trivial trivial (by omega)
      refine ⟨z4', z5', k4, k5, ?_⟩
      rw [List.map_cons, for_nx (s2 := [.dat A, .dat B, .dic (.k (kd (ded N))), .dat d3, .dat (.str x), .dat (.str "kind")]) e1 (by unfold b_used_marks_2; simp only [mVar, mC, mMap, mMap2, lift_some, lift_none, bind_ok, bind_err, bind_bad, mCons, mNil, mT, asB_bool, asB, mAnd, mOr, mNot, andV_eq, orV_eq, mNotV, mIf, chain_eq, chK_b, mCall, sSeq, sNext, sIf, sRet, sRetN, sDrop, sAsg, sRaise, sFor, sApp, sOwn, setO, ownAt, mOwn1, mPop0, sFrz, frz, sAug, ex_ok, ex_err, ex_bad, then_nx, then_ret, then_brk, then_ct, then_err, optG_some, optG_none, tName, setD, tTupG, tsCons, tsNil, Option.bind_some, List.getElem?_cons_zero, List.getElem?_cons_succ, List.set_cons_zero, List.set_cons_succ, List.length_cons, List.length_nil, Bool.not_true, Bool.not_false, Bool.false_eq_true, if_true, if_false, reduceIte, List.map_cons, List.map_nil, List.cons_append, List.nil_append, List.replicate, Nat.reduceSub, Nat.reduceAdd, Nat.reduceEqDiff, Option.map_some, Option.map_none, outs, Int.reduceAdd, Int.reduceSub, Int.reduceBEq, Int.reduceLT, Int.reduceLE, decide_true, decide_false, beq_self_eq_true, cast_0, cast_1, cast_2, cast_3, cast_4, cast_5, isi_str, isi_tup, addD_i, addI_i, subD_i, leD_i, leD_s, ltD_i, ltD_s, gtD_i, geD_i, eqD_i, neD_i, eqD_b, neD_b, eqD_s, lenD_l, lenD_t, absD_i, intD_i, tupD_l, tupD_t, lstD_l, lstD_t, mkT_0, mkT_1, mkT_2, mkT_3, mkL_0, mkL_1, sized_0, sized_1, ix_0, ix_1, ix_2, isT_t, isT_s, isT_l, isT_i, isT_n, isS_s, isS_t, isS_l, isS_i, isS_n, neD_s, Kd.inj, Mk.inj, Lk.inj, s_km, s_mk, List.length_append, L_c, L_i, L_n, L_a, L_cc, L_ic, L_ii, L_nc, L_ni, L_nn, L_ac, L_ai, L_an, L_aa, eqD_km, s_km]), q]
      rfl
    | true =>
      obtain ⟨z4', z5', k4, k5, q⟩ := ih (N ++ [x]) (.dat (.str x)) (.dat (.str "mark")) trivial trivial (by rw [List.length_append, List.length_singleton]; omega)
      refine ⟨z4', z5', k4, k5, ?_⟩
      have e2 : b_used_marks_2 [.dat A, .dat B, .dic (.k (kd (ded N))), .dat d3, .dat (.str x), .dat (.str "mark")] = .nx [.dat A, .dat B, .dic (.k (kd (ded (N ++ [x])))), .dat d3, .dat (.str x), .dat (.str "mark")] := by
        have hz := kd_lt (xs := N) (by omega)
        unfold b_used_marks_2 sPutK
        simp only [mVar, mC, mMap, mMap2, lift_some, lift_none, bind_ok, bind_err, bind_bad, mCons, mNil, mT, asB_bool, asB, mAnd, mOr, mNot, andV_eq, orV_eq, mNotV, mIf, chain_eq, chK_b, mCall, sSeq, sNext, sIf, sRet, sRetN, sDrop, sAsg, sRaise, sFor, sApp, sOwn, setO, ownAt, mOwn1, mPop0, sFrz, frz, sAug, ex_ok, ex_err, ex_bad, then_nx, then_ret, then_brk, then_ct, then_err, optG_some, optG_none, tName, setD, tTupG, tsCons, tsNil, Option.bind_some, List.getElem?_cons_zero, List.getElem?_cons_succ, List.set_cons_zero, List.set_cons_succ, List.length_cons, List.length_nil, Bool.not_true, Bool.not_false, Bool.false_eq_true, if_true, if_false, reduceIte, List.map_cons, List.map_nil, List.cons_append, List.nil_append, List.replicate, Nat.reduceSub, Nat.reduceAdd, Nat.reduceEqDiff, Option.map_some, Option.map_none, outs, Int.reduceAdd, Int.reduceSub, Int.reduceBEq, Int.reduceLT, Int.reduceLE, decide_true, decide_false, beq_self_eq_true, cast_0, cast_1, cast_2, cast_3, cast_4, cast_5, isi_str, isi_tup, addD_i, addI_i, subD_i, leD_i, leD_s, ltD_i, ltD_s, gtD_i, geD_i, eqD_i, neD_i, eqD_b, neD_b, eqD_s, lenD_l, lenD_t, absD_i, intD_i, tupD_l, tupD_t, lstD_l, lstD_t, mkT_0, mkT_1, mkT_2, mkT_3, mkL_0, mkL_1, sized_0, sized_1, ix_0, ix_1, ix_2, isT_t, isT_s, isT_l, isT_i, isT_n, isS_s, isS_t, isS_l, isS_i, isS_n, neD_s, Kd.inj, Mk.inj, Lk.inj, s_km, s_mk, List.length_append, L_c, L_i, L_n, L_a, L_cc, L_ic, L_ii, L_nc, L_ni, L_nn, L_ac, L_ai, L_an, L_aa, dkAt, eqD_mm, hz, put_ded]
      rw [List.map_cons, for_nx e1 e2, q, List.append_assoc]
      rfl
theorem um_marks {A B d3 : D} {z5 : Sl} {n : List Str} : ∀ (N : List Str) (z4 : Sl), NO z4 → N.length + n.length ≤ 10000 →
    ∃ z4', NO z4' ∧ forG (tName 4) b_used_marks_1 (n.map .str) [.dat A, .dat B, .dic (.k (kd (ded N))), .dat d3, z4, z5] = .nx [.dat A, .dat B, .dic (.k (kd (ded (N ++ n)))), .dat d3, z4', z5] := by
  induction n with
  | nil => intro N z4 h4 _; exact ⟨z4, h4, by simp only [List.append_nil]; rfl⟩
  | cons x r ih =>
    intro N z4 h4 hl
    rw [List.length_cons] at hl
    obtain ⟨z4', k4, q⟩ := ih (N ++ [x]) (.dat (.str x)) trivial (by rw [List.length_append, List.length_singleton]; omega)
    refine ⟨z4', k4, ?_⟩
    have e2 : b_used_marks_1 [.dat A, .dat B, .dic (.k (kd (ded N))), .dat d3, .dat (.str x), z5] = .nx [.dat A, .dat B, .dic (.k (kd (ded (N ++ [x])))), .dat d3, .dat (.str x), z5] := by
      have hz := kd_lt (xs := N) (by omega)
      unfold b_used_marks_1 sPutK
      simp only [mVar, mC, mMap, mMap2, lift_some, lift_none, bind_ok, bind_err, bind_bad, mCons, mNil, mT, asB_bool, asB, mAnd, mOr, mNot, andV_eq, orV_eq, mNotV, mIf, chain_eq, chK_b, mCall, sSeq, sNext, sIf, sRet, sRetN, sDrop, sAsg, sRaise, sFor, sApp, sOwn, setO, ownAt, mOwn1, mPop0, sFrz, frz, sAug, ex_ok, ex_err, ex_bad, then_nx, then_ret, then_brk, then_ct, then_err, optG_some, optG_none, tName, setD, tTupG, tsCons, tsNil, Option.bind_some, List.getElem?_cons_zero, List.getElem?_cons_succ, List.set_cons_zero, List.set_cons_succ, List.length_cons, List.length_nil, Bool.not_true, Bool.not_false, Bool.false_eq_true, if_true, if_false, reduceIte, List.map_cons, List.map_nil, List.cons_append, List.nil_append, List.replicate, Nat.reduceSub, Nat.reduceAdd, Nat.reduceEqDiff, Option.map_some, Option.map_none, outs, Int.reduceAdd, Int.reduceSub, Int.reduceBEq, Int.reduceLT, Int.reduceLE, decide_true, decide_false, beq_self_eq_true, cast_0, cast_1, cast_2, cast_3, cast_4, cast_5, isi_str, isi_tup, addD_i, addI_i, subD_i, leD_i, leD_s, ltD_i, ltD_s, gtD_i, geD_i, eqD_i, neD_i, eqD_b, neD_b, eqD_s, lenD_l, lenD_t, absD_i, intD_i, tupD_l, tupD_t, lstD_l, lstD_t, mkT_0, mkT_1, mkT_2, mkT_3, mkL_0, mkL_1, sized_0, sized_1, ix_0, ix_1, ix_2, isT_t, isT_s, isT_l, isT_i, isT_n, isS_s, isS_t, isS_l, isS_i, isS_n, neD_s, Kd.inj, Mk.inj, Lk.inj, s_km, s_mk, List.length_append, L_c, L_i, L_n, L_a, L_cc, L_ic, L_ii, L_nc, L_ni, L_nn, L_ac, L_ai, L_an, L_aa, dkAt, hz, put_ded]
    rw [List.map_cons, for_nx (set_no h4 rfl) e2, q, List.append_assoc]
    rfl
theorem um_body {A B : D} {N : List Str} {p : TP} {z4 z5 : Sl} (h4 : NO z4) (h5 : NO z5) (hl : N.length + p.m.length + p.n.length ≤ 10000) :
    ∃ z4' z5', NO z4' ∧ NO z5' ∧ b_used_marks_3 [.dat A, .dat B, .dic (.k (kd (ded N))), .dat (tpD p), z4, z5] = .nx [.dat A, .dat B, .dic (.k (kd (ded (N ++ mOf p)))), .dat (tpD p), z4', z5'] := by
  obtain ⟨y4, k4, q1⟩ := um_marks (A := A) (B := B) (d3 := tpD p) (z5 := z5) (n := p.m) N z4 h4 (by omega)
  obtain ⟨z4', z5', i4, i5, q2⟩ := um_inner (A := A) (B := B) (d3 := tpD p) (n := p.n) (N ++ p.m) y4 z5 k4 h5 (by rw [List.length_append]; omega)
  refine ⟨z4', z5', i4, i5, ?_⟩
  unfold b_used_marks_3
  refine (seq_nx (sfor_nx ?_ q1)).trans ?_
  · simp only [mVar, mC, mMap, mMap2, lift_some, lift_none, bind_ok, bind_err, bind_bad, mCons, mNil, mT, asB_bool, asB, mAnd, mOr, mNot, andV_eq, orV_eq, mNotV, mIf, chain_eq, chK_b, mCall, sSeq, sNext, sIf, sRet, sRetN, sDrop, sAsg, sRaise, sFor, sApp, sOwn, setO, ownAt, mOwn1, mPop0, sFrz, frz, sAug, ex_ok, ex_err, ex_bad, then_nx, then_ret, then_brk, then_ct, then_err, optG_some, optG_none, tName, setD, tTupG, tsCons, tsNil, Option.bind_some, List.getElem?_cons_zero, List.getElem?_cons_succ, List.set_cons_zero, List.set_cons_succ, List.length_cons, List.length_nil, Bool.not_true, Bool.not_false, Bool.false_eq_true, if_true, if_false, reduceIte, List.map_cons, List.map_nil, List.cons_append, List.nil_append, List.replicate, Nat.reduceSub, Nat.reduceAdd, Nat.reduceEqDiff, Option.map_some, Option.map_none, outs, Int.reduceAdd, Int.reduceSub, Int.reduceBEq, Int.reduceLT, Int.reduceLE, decide_true, decide_false, beq_self_eq_true, cast_0, cast_1, cast_2, cast_3, cast_4, cast_5, isi_str, isi_tup, addD_i, addI_i, subD_i, leD_i, leD_s, ltD_i, ltD_s, gtD_i, geD_i, eqD_i, neD_i, eqD_b, neD_b, eqD_s, lenD_l, lenD_t, absD_i, intD_i, tupD_l, tupD_t, lstD_l, lstD_t, mkT_0, mkT_1, mkT_2, mkT_3, mkL_0, mkL_1, sized_0, sized_1, ix_0, ix_1, ix_2, isT_t, isT_s, isT_l, isT_i, isT_n, isS_s, isS_t, isS_l, isS_i, isS_n, neD_s, Kd.inj, Mk.inj, Lk.inj, s_km, s_mk, List.length_append, L_c, L_i, L_n, L_a, L_cc, L_ic, L_ii, L_nc, L_ni, L_nn, L_ac, L_ai, L_an, L_aa, tp1, items]
  rw [List.append_assoc] at q2
  refine sfor_nx ?_ q2
  simp only [mVar, mC, mMap, mMap2, lift_some, lift_none, bind_ok, bind_err, bind_bad, mCons, mNil, mT, asB_bool, asB, mAnd, mOr, mNot, andV_eq, orV_eq, mNotV, mIf, chain_eq, chK_b, mCall, sSeq, sNext, sIf, sRet, sRetN, sDrop, sAsg, sRaise, sFor, sApp, sOwn, setO, ownAt, mOwn1, mPop0, sFrz, frz, sAug, ex_ok, ex_err, ex_bad, then_nx, then_ret, then_brk, then_ct, then_err, optG_some, optG_none, tName, setD, tTupG, tsCons, tsNil, Option.bind_some, List.getElem?_cons_zero, List.getElem?_cons_succ, List.set_cons_zero, List.set_cons_succ, List.length_cons, List.length_nil, Bool.not_true, Bool.not_false, Bool.false_eq_true, if_true, if_false, reduceIte, List.map_cons, List.map_nil, List.cons_append, List.nil_append, List.replicate, Nat.reduceSub, Nat.reduceAdd, Nat.reduceEqDiff, Option.map_some, Option.map_none, outs, Int.reduceAdd, Int.reduceSub, Int.reduceBEq, Int.reduceLT, Int.reduceLE, decide_true, decide_false, beq_self_eq_true, cast_0, cast_1, cast_2, cast_3, cast_4, cast_5, isi_str, isi_tup, addD_i, addI_i, subD_i, leD_i, leD_s, ltD_i, ltD_s, gtD_i, geD_i, eqD_i, neD_i, eqD_b, neD_b, eqD_s, lenD_l, lenD_t, absD_i, intD_i, tupD_l, tupD_t, lstD_l, lstD_t, mkT_0, mkT_1, mkT_2, mkT_3, mkL_0, mkL_1, sized_0, sized_1, ix_0, ix_1, ix_2, isT_t, isT_s, isT_l, isT_i, isT_n, isS_s, isS_t, isS_l, isS_i, isS_n, neD_s, Kd.inj, Mk.inj, Lk.inj, s_km, s_mk, List.length_append, L_c, L_i, L_n, L_a, L_cc, L_ic, L_ii, L_nc, L_ni, L_nn, L_ac, L_ai, L_an, L_aa, tp2, items]
theorem used_marks_eq (h : Bd1 a b) : F_used_marks [.dat (tssD a), .dat (tssD b)] = .ok (.list ((smn (a ++ b)).map .str)) [.dat (tssD a), .dat (tssD b)] := by
  have ap := all_parts_eq h.l (by have := h.p; omega)
  obtain ⟨s', q, z3, z4, z5, n3, n4, n5, rfl⟩ := for_pre (t := tName 3) (body := b_used_marks_3) tpD (fun pre s => ∃ z3 z4 z5, NO z3 ∧ NO z4 ∧ NO z5 ∧ s = [.dat (tssD a), .dat (tssD b), .dic (.k (kd (ded (pre.flatMap mOf)))), z3, z4, z5]) (parts (a ++ b)) (parts (a ++ b)) []
    [.dat (tssD a), .dat (tssD b), .dic (.k (kd (ded []))), .un, .un, .un] rfl ⟨.un, .un, .un, trivial, trivial, trivial, rfl⟩ (fun pre p s hx => by
      rintro ⟨z3, z4, z5, n3, n4, n5, rfl⟩
      have l1 : (pre.flatMap mOf).length + (mOf p).length ≤ (mAll (a ++ b)).length := pre_len (f := mOf) hx
      have l2 := h.m
      have l3 := h.n p (mem_pre hx)
      have l4 : p.m.length ≤ (mOf p).length := by unfold mOf; rw [List.length_append]; omega
      obtain ⟨z4', z5', k4, k5, e⟩ := um_body (A := tssD a) (B := tssD b) (N := pre.flatMap mOf) (p := p) n4 n5 (by omega)
      exact ⟨_, _, set_no n3 rfl, e, .dat (tpD p), z4', z5', trivial, k4, k5, by rw [flat_snoc]⟩)
  refine run_of (st := [.dat (tssD a), .dat (tssD b), .un, .un, .un, .un]) ⟨[.dat (tssD a), .dat (tssD b), .dic (.k (kd (ded (mAll (a ++ b))))), z3, z4, z5], ?_, rfl⟩
  unfold g_used_marks
  refine (seq_nx (s1 := [.dat (tssD a), .dat (tssD b), .dic (.k (kd (ded []))), .un, .un, .un]) rfl).trans ?_
  refine (seq_nx (s1 := [.dat (tssD a), .dat (tssD b), .dic (.k (kd (ded (mAll (a ++ b))))), z3, z4, z5]) (sfor_nx ?_ q)).trans ?_
  · simp only [mVar, mC, mMap, mMap2, lift_some, lift_none, bind_ok, bind_err, bind_bad, mCons, mNil, mT, asB_bool, asB, mAnd, mOr, mNot, andV_eq, orV_eq, mNotV, mIf, chain_eq, chK_b, mCall, sSeq, sNext, sIf, sRet, sRetN, sDrop, sAsg, sRaise, sFor, sApp, sOwn, setO, ownAt, mOwn1, mPop0, sFrz, frz, sAug, ex_ok, ex_err, ex_bad, then_nx, then_ret, then_brk, then_ct, then_err, optG_some, optG_none, tName, setD, tTupG, tsCons, tsNil, Option.bind_some, List.getElem?_cons_zero, List.getElem?_cons_succ, List.set_cons_zero, List.set_cons_succ, List.length_cons, List.length_nil, Bool.not_true, Bool.not_false, Bool.false_eq_true, if_true, if_false, reduceIte, List.map_cons, List.map_nil, List.cons_append, List.nil_append, List.replicate, Nat.reduceSub, Nat.reduceAdd, Nat.reduceEqDiff, Option.map_some, Option.map_none, outs, Int.reduceAdd, Int.reduceSub, Int.reduceBEq, Int.reduceLT, Int.reduceLE, decide_true, decide_false, beq_self_eq_true, cast_0, cast_1, cast_2, cast_3, cast_4, cast_5, isi_str, isi_tup, addD_i, addI_i, subD_i, leD_i, leD_s, ltD_i, ltD_s, gtD_i, geD_i, eqD_i, neD_i, eqD_b, neD_b, eqD_s, lenD_l, lenD_t, absD_i, intD_i, tupD_l, tupD_t, lstD_l, lstD_t, mkT_0, mkT_1, mkT_2, mkT_3, mkL_0, mkL_1, sized_0, sized_1, ix_0, ix_1, ix_2, isT_t, isT_s, isT_l, isT_i, isT_n, isS_s, isS_t, isS_l, isS_i, isS_n, neD_s, Kd.inj, Mk.inj, Lk.inj, s_km, s_mk, List.length_append, L_c, L_i, L_n, L_a, L_cc, L_ic, L_ii, L_nc, L_ni, L_nn, L_ac, L_ai, L_an, L_aa, ap, items]
  · unfold sRet mL mSortK
    simp only [mVar, mC, mMap, mMap2, lift_some, lift_none, bind_ok, bind_err, bind_bad, mCons, mNil, mT, asB_bool, asB, mAnd, mOr, mNot, andV_eq, orV_eq, mNotV, mIf, chain_eq, chK_b, mCall, sSeq, sNext, sIf, sRet, sRetN, sDrop, sAsg, sRaise, sFor, sApp, sOwn, setO, ownAt, mOwn1, mPop0, sFrz, frz, sAug, ex_ok, ex_err, ex_bad, then_nx, then_ret, then_brk, then_ct, then_err, optG_some, optG_none, tName, setD, tTupG, tsCons, tsNil, Option.bind_some, List.getElem?_cons_zero, List.getElem?_cons_succ, List.set_cons_zero, List.set_cons_succ, List.length_cons, List.length_nil, Bool.not_true, Bool.not_false, Bool.false_eq_true, if_true, if_false, reduceIte, List.map_cons, List.map_nil, List.cons_append, List.nil_append, List.replicate, Nat.reduceSub, Nat.reduceAdd, Nat.reduceEqDiff, Option.map_some, Option.map_none, outs, Int.reduceAdd, Int.reduceSub, Int.reduceBEq, Int.reduceLT, Int.reduceLE, decide_true, decide_false, beq_self_eq_true, cast_0, cast_1, cast_2, cast_3, cast_4, cast_5, isi_str, isi_tup, addD_i, addI_i, subD_i, leD_i, leD_s, ltD_i, ltD_s, gtD_i, geD_i, eqD_i, neD_i, eqD_b, neD_b, eqD_s, lenD_l, lenD_t, absD_i, intD_i, tupD_l, tupD_t, lstD_l, lstD_t, mkT_0, mkT_1, mkT_2, mkT_3, mkL_0, mkL_1, sized_0, sized_1, ix_0, ix_1, ix_2, isT_t, isT_s, isT_l, isT_i, isT_n, isS_s, isS_t, isS_l, isS_i, isS_n, neD_s, Kd.inj, Mk.inj, Lk.inj, s_km, s_mk, List.length_append, L_c, L_i, L_n, L_a, L_cc, L_ic, L_ii, L_nc, L_ni, L_nn, L_ac, L_ai, L_an, L_aa, dkAt, skeys_kd]
end
end DL

namespace DL
open PySem PySem.Spec L2
open PySem.W (dataLe)
/-! ### the law's used names -/
def wS (w : Bool) : Str := if w = true then "mark" else "kind"
def uOf (w : Bool) (p : TP) : List Str := (if w = true then p.m else p.k.toList) ++ (p.n.filter fun t => t.1 == w).map (·.2)
theorem uOf_k (p : TP) : uOf false p = kOf p := by
  unfold uOf kOf
  congr 3
  funext t
  cases t.1 <;> rfl
theorem uOf_m (p : TP) : uOf true p = mOf p := by
  unfold uOf mOf
  congr 3
  funext t
  cases t.1 <;> rfl
theorem eqD_w (m w : Bool) : eqD (.str (if m = true then "mark" else "kind")) (.str (wS w)) = some (.bool (m == w)) := by
  cases m <;> cases w
  · exact eqD_kk
  · exact eqD_km
  · exact eqD_mk
  · exact eqD_mm
theorem wS_b (m w : Bool) : ((if m = true then ("mark" : Str) else "kind") == wS w) = (m == w) := by cases m <;> cases w <;> decide +kernel
theorem strs_map (N M : List Str) : N.map PyData.str ++ M.map PyData.str = (N ++ M).map .str := List.map_append.symm
theorem cat_s {N M : List Str} (h : N.length + M.length ≤ 100000) : catL (.list (N.map .str)) (.list (M.map .str)) = some ((N ++ M).map .str) := by
  show (if _ ≤ sizeLine then some (N.map PyData.str ++ M.map PyData.str) else none) = _
  rw [if_pos (small_line (by rw [List.length_map, List.length_map]; exact h)), strs_map]
theorem lstD_t' (xs : List D) : lstD [.tuple xs] = some (.list xs) := lstD_t xs
section
variable {S d3 : D} {p : TP} {w : Bool}
theorem lu_tests (N : List Str) {z5 z6 : Sl} (h5 : NO z5) (hl : p.n.length ≤ 1000) :
    mLc [5] (mMap (mMap2 (mVar 4) (mC (.int 2)) ixD) items) (tName 5) t_law_used_2 e_law_used_1 [.dat S, .dat (.str (wS w)), .dat (.list (N.map .str)), .dat d3, .dat (tpD p), z5, z6] = .ok (((p.n.filter fun t => t.1 == w).map (·.2)).map .str) [.dat S, .dat (.str (wS w)), .dat (.list (N.map .str)), .dat d3, .dat (tpD p), z5, z6] := by
  have q := lc_filter (vs := [5]) (t := tName 5) (test := t_law_used_2) (elt := e_law_used_1) (s := [.dat S, .dat (.str (wS w)), .dat (.list (N.map .str)), .dat d3, .dat (tpD p), .un, z6]) tnD (fun t => .str t.2) (fun t => t.1 == w) (xs := p.n) (fun t _ => by
    refine ⟨[.dat S, .dat (.str (wS w)), .dat (.list (N.map .str)), .dat d3, .dat (tpD p), .dat (tnD t), z6], rfl, ?_, fun _ => ?_, rfl⟩
    · unfold t_law_used_2
      simp only [mVar, mC, mMap, mMap2, lift_some, lift_none, bind_ok, bind_err, bind_bad, mCons, mNil, mT, asB_bool, asB, mAnd, mOr, mNot, andV_eq, orV_eq, mNotV, mIf, chain_eq, chK_b, mCall, sSeq, sNext, sIf, sRet, sRetN, sDrop, sAsg, sRaise, sFor, sApp, sOwn, setO, ownAt, mOwn1, mPop0, sFrz, frz, sAug, ex_ok, ex_err, ex_bad, then_nx, then_ret, then_brk, then_ct, then_err, optG_some, optG_none, tName, setD, tTupG, tsCons, tsNil, Option.bind_some, List.getElem?_cons_zero, List.getElem?_cons_succ, List.set_cons_zero, List.set_cons_succ, List.length_cons, List.length_nil, Bool.not_true, Bool.not_false, Bool.false_eq_true, if_true, if_false, reduceIte, List.map_cons, List.map_nil, List.cons_append, List.nil_append, List.replicate, Nat.reduceSub, Nat.reduceAdd, Nat.reduceEqDiff, Option.map_some, Option.map_none, outs, Int.reduceAdd, Int.reduceSub, Int.reduceBEq, Int.reduceLT, Int.reduceLE, decide_true, decide_false, beq_self_eq_true, cast_0, cast_1, cast_2, cast_3, cast_4, cast_5, isi_str, isi_tup, addD_i, addI_i, subD_i, leD_i, leD_s, ltD_i, ltD_s, gtD_i, geD_i, eqD_i, neD_i, eqD_b, neD_b, eqD_s, lenD_l, lenD_t, absD_i, intD_i, tupD_l, tupD_t, lstD_l, lstD_t, mkT_0, mkT_1, mkT_2, mkT_3, mkL_0, mkL_1, sized_0, sized_1, ix_0, ix_1, ix_2, isT_t, isT_s, isT_l, isT_i, isT_n, isS_s, isS_t, isS_l, isS_i, isS_n, neD_s, Kd.inj, Mk.inj, Lk.inj, s_km, s_mk, List.length_append, L_c, L_i, L_n, L_a, L_cc, L_ic, L_ii, L_nc, L_ni, L_nn, L_ac, L_ai, L_an, L_aa, show ixD (tnD t) (.int 0) = some (.str (if t.1 = true then "mark" else "kind")) from ix_0 _ _, wS_b]
    · unfold e_law_used_1
      simp only [mVar, mC, mMap, mMap2, lift_some, lift_none, bind_ok, bind_err, bind_bad, mCons, mNil, mT, asB_bool, asB, mAnd, mOr, mNot, andV_eq, orV_eq, mNotV, mIf, chain_eq, chK_b, mCall, sSeq, sNext, sIf, sRet, sRetN, sDrop, sAsg, sRaise, sFor, sApp, sOwn, setO, ownAt, mOwn1, mPop0, sFrz, frz, sAug, ex_ok, ex_err, ex_bad, then_nx, then_ret, then_brk, then_ct, then_err, optG_some, optG_none, tName, setD, tTupG, tsCons, tsNil, Option.bind_some, List.getElem?_cons_zero, List.getElem?_cons_succ, List.set_cons_zero, List.set_cons_succ, List.length_cons, List.length_nil, Bool.not_true, Bool.not_false, Bool.false_eq_true, if_true, if_false, reduceIte, List.map_cons, List.map_nil, List.cons_append, List.nil_append, List.replicate, Nat.reduceSub, Nat.reduceAdd, Nat.reduceEqDiff, Option.map_some, Option.map_none, outs, Int.reduceAdd, Int.reduceSub, Int.reduceBEq, Int.reduceLT, Int.reduceLE, decide_true, decide_false, beq_self_eq_true, cast_0, cast_1, cast_2, cast_3, cast_4, cast_5, isi_str, isi_tup, addD_i, addI_i, subD_i, leD_i, leD_s, ltD_i, ltD_s, gtD_i, geD_i, eqD_i, neD_i, eqD_b, neD_b, eqD_s, lenD_l, lenD_t, absD_i, intD_i, tupD_l, tupD_t, lstD_l, lstD_t, mkT_0, mkT_1, mkT_2, mkT_3, mkL_0, mkL_1, sized_0, sized_1, ix_0, ix_1, ix_2, isT_t, isT_s, isT_l, isT_i, isT_n, isS_s, isS_t, isS_l, isS_i, isS_n, neD_s, Kd.inj, Mk.inj, Lk.inj, s_km, s_mk, List.length_append, L_c, L_i, L_n, L_a, L_cc, L_ic, L_ii, L_nc, L_ni, L_nn, L_ac, L_ai, L_an, L_aa, show ixD (tnD t) (.int 1) = some (.str t.2) from ix_1 _ _ _])
  rw [show (p.n.filter fun t => t.1 == w).map (fun t => PyData.str t.2) = ((p.n.filter fun t => t.1 == w).map (·.2)).map .str by rw [List.map_map]; rfl] at q
  refine mLc_ok (s1 := [.dat S, .dat (.str (wS w)), .dat (.list (N.map .str)), .dat d3, .dat (tpD p), z5, z6]) (ds := p.n.map tnD) (by simp only [mVar, mC, mMap, mMap2, lift_some, lift_none, bind_ok, bind_err, bind_bad, mCons, mNil, mT, asB_bool, asB, mAnd, mOr, mNot, andV_eq, orV_eq, mNotV, mIf, chain_eq, chK_b, mCall, sSeq, sNext, sIf, sRet, sRetN, sDrop, sAsg, sRaise, sFor, sApp, sOwn, setO, ownAt, mOwn1, mPop0, sFrz, frz, sAug, ex_ok, ex_err, ex_bad, then_nx, then_ret, then_brk, then_ct, then_err, optG_some, optG_none, tName, setD, tTupG, tsCons, tsNil, Option.bind_some, List.getElem?_cons_zero, List.getElem?_cons_succ, List.set_cons_zero, List.set_cons_succ, List.length_cons, List.length_nil, Bool.not_true, Bool.not_false, Bool.false_eq_true, if_true, if_false, reduceIte, List.map_cons, List.map_nil, List.cons_append, List.nil_append, List.replicate, Nat.reduceSub, Nat.reduceAdd, Nat.reduceEqDiff, Option.map_some, Option.map_none, outs, Int.reduceAdd, Int.reduceSub, Int.reduceBEq, Int.reduceLT, Int.reduceLE, decide_true, decide_false, beq_self_eq_true, cast_0, cast_1, cast_2, cast_3, cast_4, cast_5, isi_str, isi_tup, addD_i, addI_i, subD_i, leD_i, leD_s, ltD_i, ltD_s, gtD_i, geD_i, eqD_i, neD_i, eqD_b, neD_b, eqD_s, lenD_l, lenD_t, absD_i, intD_i, tupD_l, tupD_t, lstD_l, lstD_t, mkT_0, mkT_1, mkT_2, mkT_3, mkL_0, mkL_1, sized_0, sized_1, ix_0, ix_1, ix_2, isT_t, isT_s, isT_l, isT_i, isT_n, isS_s, isS_t, isS_l, isS_i, isS_n, neD_s, Kd.inj, Mk.inj, Lk.inj, s_km, s_mk, List.length_append, L_c, L_i, L_n, L_a, L_cc, L_ic, L_ii, L_nc, L_ni, L_nn, L_ac, L_ai, L_an, L_aa, tp2, items]) ?_ (s2 := [.dat S, .dat (.str (wS w)), .dat (.list (N.map .str)), .dat d3, .dat (tpD p), .un, z6]) ?_ ?_ ?_
  · cases z5 <;> first | rfl | exact h5.elim
  · exact q
  · rw [List.length_map, List.length_map]
    exact small_line (by have := List.length_filter_le (fun t : Bool × Str => t.1 == w) p.n; omega)
  · rfl
theorem lu_part (N : List Str) {z5 z6 : Sl} (h5 : NO z5) (hn : p.n.length ≤ 1000) (hl : N.length + 1 + p.m.length + p.n.length ≤ 10000) :
    b_law_used_3 [.dat S, .dat (.str (wS w)), .own (N.map .str), .dat d3, .dat (tpD p), z5, z6] = .nx [.dat S, .dat (.str (wS w)), .own ((N ++ uOf w p).map .str), .dat d3, .dat (tpD p), z5, z6] := by
  have hf := List.length_filter_le (fun t : Bool × Str => t.1 == w) p.n
  have fin : ∀ N1 : List Str, N1.length ≤ N.length + 1 + p.m.length → (sFrz 2 (sOwn 2 (mMap2 (mVar 2) (mL (mLc [5] (mMap (mMap2 (mVar 4) (mC (.int 2)) ixD) items) (tName 5) t_law_used_2 e_law_used_1)) catL))) [.dat S, .dat (.str (wS w)), .own (N1.map .str), .dat d3, .dat (tpD p), z5, z6] = .nx [.dat S, .dat (.str (wS w)), .own ((N1 ++ (p.n.filter fun t => t.1 == w).map (·.2)).map .str), .dat d3, .dat (tpD p), z5, z6] := fun N1 h1 => by
    have c := cat_s (N := N1) (M := (p.n.filter fun t => t.1 == w).map (·.2)) (by rw [List.length_map]; omega)
    simp only [mVar, mC, mMap, mMap2, lift_some, lift_none, bind_ok, bind_err, bind_bad, mCons, mNil, mT, asB_bool, asB, mAnd, mOr, mNot, andV_eq, orV_eq, mNotV, mIf, chain_eq, chK_b, mCall, sSeq, sNext, sIf, sRet, sRetN, sDrop, sAsg, sRaise, sFor, sApp, sOwn, setO, ownAt, mOwn1, mPop0, sFrz, frz, sAug, ex_ok, ex_err, ex_bad, then_nx, then_ret, then_brk, then_ct, then_err, optG_some, optG_none, tName, setD, tTupG, tsCons, tsNil, Option.bind_some, List.getElem?_cons_zero, List.getElem?_cons_succ, List.set_cons_zero, List.set_cons_succ, List.length_cons, List.length_nil, Bool.not_true, Bool.not_false, Bool.false_eq_true, if_true, if_false, reduceIte, List.map_cons, List.map_nil, List.cons_append, List.nil_append, List.replicate, Nat.reduceSub, Nat.reduceAdd, Nat.reduceEqDiff, Option.map_some, Option.map_none, outs, Int.reduceAdd, Int.reduceSub, Int.reduceBEq, Int.reduceLT, Int.reduceLE, decide_true, decide_false, beq_self_eq_true, cast_0, cast_1, cast_2, cast_3, cast_4, cast_5, isi_str, isi_tup, addD_i, addI_i, subD_i, leD_i, leD_s, ltD_i, ltD_s, gtD_i, geD_i, eqD_i, neD_i, eqD_b, neD_b, eqD_s, lenD_l, lenD_t, absD_i, intD_i, tupD_l, tupD_t, lstD_l, lstD_t, mkT_0, mkT_1, mkT_2, mkT_3, mkL_0, mkL_1, sized_0, sized_1, ix_0, ix_1, ix_2, isT_t, isT_s, isT_l, isT_i, isT_n, isS_s, isS_t, isS_l, isS_i, isS_n, neD_s, Kd.inj, Mk.inj, Lk.inj, s_km, s_mk, List.length_append, L_c, L_i, L_n, L_a, L_cc, L_ic, L_ii, L_nc, L_ni, L_nn, L_ac, L_ai, L_an, L_aa, mL, lu_tests N1 h5 hn, c]
  unfold b_law_used_3 uOf
  cases w with
  | false =>
    cases hk : p.k with
    | none =>
      refine (seq_nx (s1 := [.dat S, .dat (.str (wS false)), .own (N.map .str), .dat d3, .dat (tpD p), z5, z6]) ?_).trans ?_
      · simp only [mVar, mC, mMap, mMap2, lift_some, lift_none, bind_ok, bind_err, bind_bad, mCons, mNil, mT, asB_bool, asB, mAnd, mOr, mNot, andV_eq, orV_eq, mNotV, mIf, chain_eq, chK_b, mCall, sSeq, sNext, sIf, sRet, sRetN, sDrop, sAsg, sRaise, sFor, sApp, sOwn, setO, ownAt, mOwn1, mPop0, sFrz, frz, sAug, ex_ok, ex_err, ex_bad, then_nx, then_ret, then_brk, then_ct, then_err, optG_some, optG_none, tName, setD, tTupG, tsCons, tsNil, Option.bind_some, List.getElem?_cons_zero, List.getElem?_cons_succ, List.set_cons_zero, List.set_cons_succ, List.length_cons, List.length_nil, Bool.not_true, Bool.not_false, Bool.false_eq_true, if_true, if_false, reduceIte, List.map_cons, List.map_nil, List.cons_append, List.nil_append, List.replicate, Nat.reduceSub, Nat.reduceAdd, Nat.reduceEqDiff, Option.map_some, Option.map_none, outs, Int.reduceAdd, Int.reduceSub, Int.reduceBEq, Int.reduceLT, Int.reduceLE, decide_true, decide_false, beq_self_eq_true, cast_0, cast_1, cast_2, cast_3, cast_4, cast_5, isi_str, isi_tup, addD_i, addI_i, subD_i, leD_i, leD_s, ltD_i, ltD_s, gtD_i, geD_i, eqD_i, neD_i, eqD_b, neD_b, eqD_s, lenD_l, lenD_t, absD_i, intD_i, tupD_l, tupD_t, lstD_l, lstD_t, mkT_0, mkT_1, mkT_2, mkT_3, mkL_0, mkL_1, sized_0, sized_1, ix_0, ix_1, ix_2, isT_t, isT_s, isT_l, isT_i, isT_n, isS_s, isS_t, isS_l, isS_i, isS_n, neD_s, Kd.inj, Mk.inj, Lk.inj, s_km, s_mk, List.length_append, L_c, L_i, L_n, L_a, L_cc, L_ic, L_ii, L_nc, L_ni, L_nn, L_ac, L_ai, L_an, L_aa, wS, tp0, hk, okS, notNone, isNon, eqD_kk]
      refine (seq_nx (s1 := [.dat S, .dat (.str (wS false)), .own (N.map .str), .dat d3, .dat (tpD p), z5, z6]) ?_).trans ?_
      · simp only [mVar, mC, mMap, mMap2, lift_some, lift_none, bind_ok, bind_err, bind_bad, mCons, mNil, mT, asB_bool, asB, mAnd, mOr, mNot, andV_eq, orV_eq, mNotV, mIf, chain_eq, chK_b, mCall, sSeq, sNext, sIf, sRet, sRetN, sDrop, sAsg, sRaise, sFor, sApp, sOwn, setO, ownAt, mOwn1, mPop0, sFrz, frz, sAug, ex_ok, ex_err, ex_bad, then_nx, then_ret, then_brk, then_ct, then_err, optG_some, optG_none, tName, setD, tTupG, tsCons, tsNil, Option.bind_some, List.getElem?_cons_zero, List.getElem?_cons_succ, List.set_cons_zero, List.set_cons_succ, List.length_cons, List.length_nil, Bool.not_true, Bool.not_false, Bool.false_eq_true, if_true, if_false, reduceIte, List.map_cons, List.map_nil, List.cons_append, List.nil_append, List.replicate, Nat.reduceSub, Nat.reduceAdd, Nat.reduceEqDiff, Option.map_some, Option.map_none, outs, Int.reduceAdd, Int.reduceSub, Int.reduceBEq, Int.reduceLT, Int.reduceLE, decide_true, decide_false, beq_self_eq_true, cast_0, cast_1, cast_2, cast_3, cast_4, cast_5, isi_str, isi_tup, addD_i, addI_i, subD_i, leD_i, leD_s, ltD_i, ltD_s, gtD_i, geD_i, eqD_i, neD_i, eqD_b, neD_b, eqD_s, lenD_l, lenD_t, absD_i, intD_i, tupD_l, tupD_t, lstD_l, lstD_t, mkT_0, mkT_1, mkT_2, mkT_3, mkL_0, mkL_1, sized_0, sized_1, ix_0, ix_1, ix_2, isT_t, isT_s, isT_l, isT_i, isT_n, isS_s, isS_t, isS_l, isS_i, isS_n, neD_s, Kd.inj, Mk.inj, Lk.inj, s_km, s_mk, List.length_append, L_c, L_i, L_n, L_a, L_cc, L_ic, L_ii, L_nc, L_ni, L_nn, L_ac, L_ai, L_an, L_aa, wS, eqD_km, s_km]
      exact fin N (by omega)
    | some x =>
      have hs : (N.map PyData.str).length < sizeLine := by rw [List.length_map]; exact Nat.lt_of_lt_of_le (by omega : N.length < 10001) (small_line (by decide))
      refine (seq_nx (s1 := [.dat S, .dat (.str (wS false)), .own ((N ++ [x]).map .str), .dat d3, .dat (tpD p), z5, z6]) ?_).trans ?_
      · simp only [mVar, mC, mMap, mMap2, lift_some, lift_none, bind_ok, bind_err, bind_bad, mCons, mNil, mT, asB_bool, asB, mAnd, mOr, mNot, andV_eq, orV_eq, mNotV, mIf, chain_eq, chK_b, mCall, sSeq, sNext, sIf, sRet, sRetN, sDrop, sAsg, sRaise, sFor, sApp, sOwn, setO, ownAt, mOwn1, mPop0, sFrz, frz, sAug, ex_ok, ex_err, ex_bad, then_nx, then_ret, then_brk, then_ct, then_err, optG_some, optG_none, tName, setD, tTupG, tsCons, tsNil, Option.bind_some, List.getElem?_cons_zero, List.getElem?_cons_succ, List.set_cons_zero, List.set_cons_succ, List.length_cons, List.length_nil, Bool.not_true, Bool.not_false, Bool.false_eq_true, if_true, if_false, reduceIte, List.map_cons, List.map_nil, List.cons_append, List.nil_append, List.replicate, Nat.reduceSub, Nat.reduceAdd, Nat.reduceEqDiff, Option.map_some, Option.map_none, outs, Int.reduceAdd, Int.reduceSub, Int.reduceBEq, Int.reduceLT, Int.reduceLE, decide_true, decide_false, beq_self_eq_true, cast_0, cast_1, cast_2, cast_3, cast_4, cast_5, isi_str, isi_tup, addD_i, addI_i, subD_i, leD_i, leD_s, ltD_i, ltD_s, gtD_i, geD_i, eqD_i, neD_i, eqD_b, neD_b, eqD_s, lenD_l, lenD_t, absD_i, intD_i, tupD_l, tupD_t, lstD_l, lstD_t, mkT_0, mkT_1, mkT_2, mkT_3, mkL_0, mkL_1, sized_0, sized_1, ix_0, ix_1, ix_2, isT_t, isT_s, isT_l, isT_i, isT_n, isS_s, isS_t, isS_l, isS_i, isS_n, neD_s, Kd.inj, Mk.inj, Lk.inj, s_km, s_mk, List.length_append, L_c, L_i, L_n, L_a, L_cc, L_ic, L_ii, L_nc, L_ni, L_nn, L_ac, L_ai, L_an, L_aa, wS, tp0, hk, okS, notNone, isNon, eqD_kk]
        rw [if_pos hs]
        simp only [mVar, mC, mMap, mMap2, lift_some, lift_none, bind_ok, bind_err, bind_bad, mCons, mNil, mT, asB_bool, asB, mAnd, mOr, mNot, andV_eq, orV_eq, mNotV, mIf, chain_eq, chK_b, mCall, sSeq, sNext, sIf, sRet, sRetN, sDrop, sAsg, sRaise, sFor, sApp, sOwn, setO, ownAt, mOwn1, mPop0, sFrz, frz, sAug, ex_ok, ex_err, ex_bad, then_nx, then_ret, then_brk, then_ct, then_err, optG_some, optG_none, tName, setD, tTupG, tsCons, tsNil, Option.bind_some, List.getElem?_cons_zero, List.getElem?_cons_succ, List.set_cons_zero, List.set_cons_succ, List.length_cons, List.length_nil, Bool.not_true, Bool.not_false, Bool.false_eq_true, if_true, if_false, reduceIte, List.map_cons, List.map_nil, List.cons_append, List.nil_append, List.replicate, Nat.reduceSub, Nat.reduceAdd, Nat.reduceEqDiff, Option.map_some, Option.map_none, outs, Int.reduceAdd, Int.reduceSub, Int.reduceBEq, Int.reduceLT, Int.reduceLE, decide_true, decide_false, beq_self_eq_true, cast_0, cast_1, cast_2, cast_3, cast_4, cast_5, isi_str, isi_tup, addD_i, addI_i, subD_i, leD_i, leD_s, ltD_i, ltD_s, gtD_i, geD_i, eqD_i, neD_i, eqD_b, neD_b, eqD_s, lenD_l, lenD_t, absD_i, intD_i, tupD_l, tupD_t, lstD_l, lstD_t, mkT_0, mkT_1, mkT_2, mkT_3, mkL_0, mkL_1, sized_0, sized_1, ix_0, ix_1, ix_2, isT_t, isT_s, isT_l, isT_i, isT_n, isS_s, isS_t, isS_l, isS_i, isS_n, neD_s, Kd.inj, Mk.inj, Lk.inj, s_km, s_mk, List.length_append, L_c, L_i, L_n, L_a, L_cc, L_ic, L_ii, L_nc, L_ni, L_nn, L_ac, L_ai, L_an, L_aa, List.map_append]
      refine (seq_nx (s1 := [.dat S, .dat (.str (wS false)), .own ((N ++ [x]).map .str), .dat d3, .dat (tpD p), z5, z6]) ?_).trans ?_
      · simp only [mVar, mC, mMap, mMap2, lift_some, lift_none, bind_ok, bind_err, bind_bad, mCons, mNil, mT, asB_bool, asB, mAnd, mOr, mNot, andV_eq, orV_eq, mNotV, mIf, chain_eq, chK_b, mCall, sSeq, sNext, sIf, sRet, sRetN, sDrop, sAsg, sRaise, sFor, sApp, sOwn, setO, ownAt, mOwn1, mPop0, sFrz, frz, sAug, ex_ok, ex_err, ex_bad, then_nx, then_ret, then_brk, then_ct, then_err, optG_some, optG_none, tName, setD, tTupG, tsCons, tsNil, Option.bind_some, List.getElem?_cons_zero, List.getElem?_cons_succ, List.set_cons_zero, List.set_cons_succ, List.length_cons, List.length_nil, Bool.not_true, Bool.not_false, Bool.false_eq_true, if_true, if_false, reduceIte, List.map_cons, List.map_nil, List.cons_append, List.nil_append, List.replicate, Nat.reduceSub, Nat.reduceAdd, Nat.reduceEqDiff, Option.map_some, Option.map_none, outs, Int.reduceAdd, Int.reduceSub, Int.reduceBEq, Int.reduceLT, Int.reduceLE, decide_true, decide_false, beq_self_eq_true, cast_0, cast_1, cast_2, cast_3, cast_4, cast_5, isi_str, isi_tup, addD_i, addI_i, subD_i, leD_i, leD_s, ltD_i, ltD_s, gtD_i, geD_i, eqD_i, neD_i, eqD_b, neD_b, eqD_s, lenD_l, lenD_t, absD_i, intD_i, tupD_l, tupD_t, lstD_l, lstD_t, mkT_0, mkT_1, mkT_2, mkT_3, mkL_0, mkL_1, sized_0, sized_1, ix_0, ix_1, ix_2, isT_t, isT_s, isT_l, isT_i, isT_n, isS_s, isS_t, isS_l, isS_i, isS_n, neD_s, Kd.inj, Mk.inj, Lk.inj, s_km, s_mk, List.length_append, L_c, L_i, L_n, L_a, L_cc, L_ic, L_ii, L_nc, L_ni, L_nn, L_ac, L_ai, L_an, L_aa, wS, eqD_km, s_km]
      refine (fin (N ++ [x]) (by rw [List.length_append, List.length_singleton]; omega)).trans ?_
      rw [List.append_assoc]
      rfl
  | true =>
    have c := cat_s (N := N) (M := p.m) (by omega)
    refine (seq_nx (s1 := [.dat S, .dat (.str (wS true)), .own (N.map .str), .dat d3, .dat (tpD p), z5, z6]) ?_).trans ?_
    · simp only [mVar, mC, mMap, mMap2, lift_some, lift_none, bind_ok, bind_err, bind_bad, mCons, mNil, mT, asB_bool, asB, mAnd, mOr, mNot, andV_eq, orV_eq, mNotV, mIf, chain_eq, chK_b, mCall, sSeq, sNext, sIf, sRet, sRetN, sDrop, sAsg, sRaise, sFor, sApp, sOwn, setO, ownAt, mOwn1, mPop0, sFrz, frz, sAug, ex_ok, ex_err, ex_bad, then_nx, then_ret, then_brk, then_ct, then_err, optG_some, optG_none, tName, setD, tTupG, tsCons, tsNil, Option.bind_some, List.getElem?_cons_zero, List.getElem?_cons_succ, List.set_cons_zero, List.set_cons_succ, List.length_cons, List.length_nil, Bool.not_true, Bool.not_false, Bool.false_eq_true, if_true, if_false, reduceIte, List.map_cons, List.map_nil, List.cons_append, List.nil_append, List.replicate, Nat.reduceSub, Nat.reduceAdd, Nat.reduceEqDiff, Option.map_some, Option.map_none, outs, Int.reduceAdd, Int.reduceSub, Int.reduceBEq, Int.reduceLT, Int.reduceLE, decide_true, decide_false, beq_self_eq_true, cast_0, cast_1, cast_2, cast_3, cast_4, cast_5, isi_str, isi_tup, addD_i, addI_i, subD_i, leD_i, leD_s, ltD_i, ltD_s, gtD_i, geD_i, eqD_i, neD_i, eqD_b, neD_b, eqD_s, lenD_l, lenD_t, absD_i, intD_i, tupD_l, tupD_t, lstD_l, lstD_t, mkT_0, mkT_1, mkT_2, mkT_3, mkL_0, mkL_1, sized_0, sized_1, ix_0, ix_1, ix_2, isT_t, isT_s, isT_l, isT_i, isT_n, isS_s, isS_t, isS_l, isS_i, isS_n, neD_s, Kd.inj, Mk.inj, Lk.inj, s_km, s_mk, List.length_append, L_c, L_i, L_n, L_a, L_cc, L_ic, L_ii, L_nc, L_ni, L_nn, L_ac, L_ai, L_an, L_aa, wS, eqD_mk, s_mk]
    refine (seq_nx (s1 := [.dat S, .dat (.str (wS true)), .own ((N ++ p.m).map .str), .dat d3, .dat (tpD p), z5, z6]) ?_).trans ?_
    · simp only [mVar, mC, mMap, mMap2, lift_some, lift_none, bind_ok, bind_err, bind_bad, mCons, mNil, mT, asB_bool, asB, mAnd, mOr, mNot, andV_eq, orV_eq, mNotV, mIf, chain_eq, chK_b, mCall, sSeq, sNext, sIf, sRet, sRetN, sDrop, sAsg, sRaise, sFor, sApp, sOwn, setO, ownAt, mOwn1, mPop0, sFrz, frz, sAug, ex_ok, ex_err, ex_bad, then_nx, then_ret, then_brk, then_ct, then_err, optG_some, optG_none, tName, setD, tTupG, tsCons, tsNil, Option.bind_some, List.getElem?_cons_zero, List.getElem?_cons_succ, List.set_cons_zero, List.set_cons_succ, List.length_cons, List.length_nil, Bool.not_true, Bool.not_false, Bool.false_eq_true, if_true, if_false, reduceIte, List.map_cons, List.map_nil, List.cons_append, List.nil_append, List.replicate, Nat.reduceSub, Nat.reduceAdd, Nat.reduceEqDiff, Option.map_some, Option.map_none, outs, Int.reduceAdd, Int.reduceSub, Int.reduceBEq, Int.reduceLT, Int.reduceLE, decide_true, decide_false, beq_self_eq_true, cast_0, cast_1, cast_2, cast_3, cast_4, cast_5, isi_str, isi_tup, addD_i, addI_i, subD_i, leD_i, leD_s, ltD_i, ltD_s, gtD_i, geD_i, eqD_i, neD_i, eqD_b, neD_b, eqD_s, lenD_l, lenD_t, absD_i, intD_i, tupD_l, tupD_t, lstD_l, lstD_t, mkT_0, mkT_1, mkT_2, mkT_3, mkL_0, mkL_1, sized_0, sized_1, ix_0, ix_1, ix_2, isT_t, isT_s, isT_l, isT_i, isT_n, isS_s, isS_t, isS_l, isS_i, isS_n, neD_s, Kd.inj, Mk.inj, Lk.inj, s_km, s_mk, List.length_append, L_c, L_i, L_n, L_a, L_cc, L_ic, L_ii, L_nc, L_ni, L_nn, L_ac, L_ai, L_an, L_aa, wS, eqD_mm, tp1, lstD_t', c]
    refine (fin (N ++ p.m) (by rw [List.length_append]; omega)).trans ?_
    rw [List.append_assoc]
    rfl
end
theorem mem_eqv (L : List Str) (x : Str) : (L.map PyData.str).any (fun z => PyData.eqv z (.str x)) = decide (x ∈ L) := by
  rw [List.any_map]
  induction L with
  | nil => rfl
  | cons y r ih =>
    rw [List.any_cons, ih]
    show ((y == x) || _) = _
    by_cases h : y = x
    · rw [h, beq_self_eq_true, decide_eq_true List.mem_cons_self]; rfl
    · rw [beq_eq_false_iff_ne.mpr h, Bool.false_or]
      have : (x ∈ y :: r) ↔ x ∈ r := by rw [List.mem_cons]; exact ⟨fun z => z.resolve_left fun e => h e.symm, .inr⟩
      simp only [this]
theorem flat_s (L : List Str) : (L.map PyData.str).all flatD = true := by
  rw [List.all_map]
  exact List.all_eq_true.mpr fun _ _ => rfl
theorem notIn_s (L : List Str) (x : Str) : notInD (.str x) (.list (L.map .str)) = some (.bool (!decide (x ∈ L))) := by
  show (if flatD (.str x) = true ∧ (L.map PyData.str).all flatD = true then some (PyData.bool (!(L.map PyData.str).any fun z => PyData.eqv z (.str x))) else none) = _
  rw [if_pos ⟨rfl, flat_s L⟩, mem_eqv]
theorem in_s (L : List Str) (x : Str) : inD (.str x) (.list (L.map .str)) = some (.bool (decide (x ∈ L))) := by
  show (if flatD (.str x) = true ∧ (L.map PyData.str).all flatD = true then some (PyData.bool ((L.map PyData.str).any fun z => PyData.eqv z (.str x))) else none) = _
  rw [if_pos ⟨rfl, flat_s L⟩, mem_eqv]
theorem ded_range (N : List Str) : ∀ n, n ≤ N.length → ((List.range n).filter fun k => !decide (N.getD k "" ∈ N.take k)).map (fun k => N.getD k "") = ded (N.take n)
  | 0, _ => rfl
  | n + 1, h => by
    have e : N.take (n + 1) = N.take n ++ [N.getD n ""] := by
      rw [List.take_succ, List.getElem?_eq_getElem (by omega), List.getD_eq_getElem?_getD, List.getElem?_eq_getElem (by omega)]
      rfl
    rw [List.range_succ, List.filter_append, List.map_append, ded_range N n (by omega), e, ded_snoc, dst]
    by_cases hm : N.getD n "" ∈ N.take n
    · rw [if_pos ((mem_ded _ _).mpr hm), List.filter_cons_of_neg (by rw [decide_eq_true hm]; decide)]
      exact List.append_nil _
    · rw [if_neg fun z => hm ((mem_ded _ _).mp z), List.filter_cons_of_pos (by rw [decide_eq_false hm]; rfl)]
      rfl
def uAll (w : Bool) (a : List TS) : List Str := (parts a).flatMap (uOf w)
theorem law_used_eq {a : List TS} {w : Bool} (hu : (uAll w a).length ≤ 1000) (hp : ∀ p ∈ parts a, p.n.length ≤ 100 ∧ p.m.length ≤ 100) : F_law_used [.dat (tssD a), .dat (.str (wS w))] = .ok (.list (((ded (uAll w a)).mergeSort leS).map .str)) [.dat (tssD a), .dat (.str (wS w))] := by
  have inner : ∀ (s : TS) (N : List Str) (z4 z5 z6 : Sl), NO z4 → NO z5 → N.length + (s.ps.flatMap (uOf w)).length ≤ 1000 → (∀ p ∈ s.ps, p.n.length ≤ 100 ∧ p.m.length ≤ 100) → ∃ z4', NO z4' ∧ b_law_used_4 [.dat (tssD a), .dat (.str (wS w)), .own (N.map .str), .dat (tsD s), z4, z5, z6] = .nx [.dat (tssD a), .dat (.str (wS w)), .own ((N ++ s.ps.flatMap (uOf w)).map .str), .dat (tsD s), z4', z5, z6] := fun s N z4 z5 z6 h4 h5 hl hps => by
    obtain ⟨s', q, z4', k4, rfl⟩ := for_pre (t := tName 4) (body := b_law_used_3) tpD (fun pre st => ∃ z4, NO z4 ∧ st = [.dat (tssD a), .dat (.str (wS w)), .own ((N ++ pre.flatMap (uOf w)).map .str), .dat (tsD s), z4, z5, z6]) s.ps s.ps []
      [.dat (tssD a), .dat (.str (wS w)), .own (N.map .str), .dat (tsD s), z4, z5, z6] rfl ⟨z4, h4, by rw [List.flatMap_nil, List.append_nil]⟩ (fun pre p st hx => by
        rintro ⟨z4, h4, rfl⟩
        have l1 := pre_len (f := uOf w) hx
        have l2 := hps p (mem_pre hx)
        exact ⟨_, _, set_no h4 rfl, lu_part (S := tssD a) (d3 := tsD s) (p := p) (w := w) (N ++ pre.flatMap (uOf w)) h5 (by omega) (by rw [List.length_append]; omega), .dat (tpD p), trivial, by rw [flat_snoc, List.append_assoc]⟩)
    refine ⟨z4', k4, ?_⟩
    unfold b_law_used_4
    refine sfor_nx ?_ q
    simp only [mVar, mC, mMap, mMap2, lift_some, lift_none, bind_ok, bind_err, bind_bad, mCons, mNil, mT, asB_bool, asB, mAnd, mOr, mNot, andV_eq, orV_eq, mNotV, mIf, chain_eq, chK_b, mCall, sSeq, sNext, sIf, sRet, sRetN, sDrop, sAsg, sRaise, sFor, sApp, sOwn, setO, ownAt, mOwn1, mPop0, sFrz, frz, sAug, ex_ok, ex_err, ex_bad, then_nx, then_ret, then_brk, then_ct, then_err, optG_some, optG_none, tName, setD, tTupG, tsCons, tsNil, Option.bind_some, List.getElem?_cons_zero, List.getElem?_cons_succ, List.set_cons_zero, List.set_cons_succ, List.length_cons, List.length_nil, Bool.not_true, Bool.not_false, Bool.false_eq_true, if_true, if_false, reduceIte, List.map_cons, List.map_nil, List.cons_append, List.nil_append, List.replicate, Nat.reduceSub, Nat.reduceAdd, Nat.reduceEqDiff, Option.map_some, Option.map_none, outs, Int.reduceAdd, Int.reduceSub, Int.reduceBEq, Int.reduceLT, Int.reduceLE, decide_true, decide_false, beq_self_eq_true, cast_0, cast_1, cast_2, cast_3, cast_4, cast_5, isi_str, isi_tup, addD_i, addI_i, subD_i, leD_i, leD_s, ltD_i, ltD_s, gtD_i, geD_i, eqD_i, neD_i, eqD_b, neD_b, eqD_s, lenD_l, lenD_t, absD_i, intD_i, tupD_l, tupD_t, lstD_l, lstD_t, mkT_0, mkT_1, mkT_2, mkT_3, mkL_0, mkL_1, sized_0, sized_1, ix_0, ix_1, ix_2, isT_t, isT_s, isT_l, isT_i, isT_n, isS_s, isS_t, isS_l, isS_i, isS_n, neD_s, Kd.inj, Mk.inj, Lk.inj, s_km, s_mk, List.length_append, L_c, L_i, L_n, L_a, L_cc, L_ic, L_ii, L_nc, L_ni, L_nn, L_ac, L_ai, L_an, L_aa, ts0, items]
  have hall : uAll w a = a.flatMap fun s => s.ps.flatMap (uOf w) := List.flatMap_assoc
  obtain ⟨s', q, z3, z4, z5, k3, k4, k5, rfl⟩ := for_pre (t := tName 3) (body := b_law_used_4) tsD (fun pre st => ∃ z3 z4 z5, NO z3 ∧ NO z4 ∧ NO z5 ∧ st = [.dat (tssD a), .dat (.str (wS w)), .own ((pre.flatMap fun s => s.ps.flatMap (uOf w)).map .str), z3, z4, z5, .un]) a a []
      [.dat (tssD a), .dat (.str (wS w)), .own [], .un, .un, .un, .un] rfl ⟨.un, .un, .un, trivial, trivial, trivial, rfl⟩ (fun pre s st hx => by
        rintro ⟨z3, z4, z5, h3, h4, h5, rfl⟩
        have l1 := pre_len (f := fun s : TS => s.ps.flatMap (uOf w)) hx
        rw [← hall] at l1
        obtain ⟨z4', k4, e⟩ := inner s (pre.flatMap fun s => s.ps.flatMap (uOf w)) z4 z5 .un h4 h5 (by omega) fun p hp' => hp p (List.mem_flatMap.mpr ⟨s, mem_pre hx, hp'⟩)
        exact ⟨_, _, set_no h3 rfl, e, .dat (tsD s), z4', z5, trivial, k4, h5, by rw [flat_snoc]⟩)
  rw [← hall] at q
  generalize uAll w a = N at *
  refine run_of (st := [.dat (tssD a), .dat (.str (wS w)), .un, .un, .un, .un, .un]) ⟨[.dat (tssD a), .dat (.str (wS w)), .own (N.map .str), z3, z4, z5, .un], ?_, rfl⟩
  have lc := lc_filter (vs := [6]) (t := tName 6) (test := t_law_used_6) (elt := e_law_used_5) (s := [.dat (tssD a), .dat (.str (wS w)), .own (N.map .str), z3, z4, z5, .un]) nat (fun k => .str (N.getD k "")) (fun k => !decide (N.getD k "" ∈ N.take k)) (xs := List.range N.length) (fun k hk => by
    have hk := List.mem_range.mp hk
    have ix : ixD (.list (N.map .str)) (nat k) = some (.str (N.getD k "")) := ixl_nat (by rw [List.getElem?_map, List.getElem?_eq_getElem hk, List.getD_eq_getElem?_getD, List.getElem?_eq_getElem hk]; rfl)
    refine ⟨[.dat (tssD a), .dat (.str (wS w)), .own (N.map .str), z3, z4, z5, .dat (nat k)], rfl, ?_, fun _ => ?_, rfl⟩
    · unfold t_law_used_6 mOwnL mSlO mPart
      simp only [mVar, mC, mMap, mMap2, lift_some, lift_none, bind_ok, bind_err, bind_bad, mCons, mNil, mT, asB_bool, asB, mAnd, mOr, mNot, andV_eq, orV_eq, mNotV, mIf, chain_eq, chK_b, mCall, sSeq, sNext, sIf, sRet, sRetN, sDrop, sAsg, sRaise, sFor, sApp, sOwn, setO, ownAt, mOwn1, mPop0, sFrz, frz, sAug, ex_ok, ex_err, ex_bad, then_nx, then_ret, then_brk, then_ct, then_err, optG_some, optG_none, tName, setD, tTupG, tsCons, tsNil, Option.bind_some, List.getElem?_cons_zero, List.getElem?_cons_succ, List.set_cons_zero, List.set_cons_succ, List.length_cons, List.length_nil, Bool.not_true, Bool.not_false, Bool.false_eq_true, if_true, if_false, reduceIte, List.map_cons, List.map_nil, List.cons_append, List.nil_append, List.replicate, Nat.reduceSub, Nat.reduceAdd, Nat.reduceEqDiff, Option.map_some, Option.map_none, outs, Int.reduceAdd, Int.reduceSub, Int.reduceBEq, Int.reduceLT, Int.reduceLE, decide_true, decide_false, beq_self_eq_true, cast_0, cast_1, cast_2, cast_3, cast_4, cast_5, isi_str, isi_tup, addD_i, addI_i, subD_i, leD_i, leD_s, ltD_i, ltD_s, gtD_i, geD_i, eqD_i, neD_i, eqD_b, neD_b, eqD_s, lenD_l, lenD_t, absD_i, intD_i, tupD_l, tupD_t, lstD_l, lstD_t, mkT_0, mkT_1, mkT_2, mkT_3, mkL_0, mkL_1, sized_0, sized_1, ix_0, ix_1, ix_2, isT_t, isT_s, isT_l, isT_i, isT_n, isS_s, isS_t, isS_l, isS_i, isS_n, neD_s, Kd.inj, Mk.inj, Lk.inj, s_km, s_mk, List.length_append, L_c, L_i, L_n, L_a, L_cc, L_ic, L_ii, L_nc, L_ni, L_nn, L_ac, L_ai, L_an, L_aa, ix, cut_to]
      rw [← List.map_take, notIn_s]
      simp only [mVar, mC, mMap, mMap2, lift_some, lift_none, bind_ok, bind_err, bind_bad, mCons, mNil, mT, asB_bool, asB, mAnd, mOr, mNot, andV_eq, orV_eq, mNotV, mIf, chain_eq, chK_b, mCall, sSeq, sNext, sIf, sRet, sRetN, sDrop, sAsg, sRaise, sFor, sApp, sOwn, setO, ownAt, mOwn1, mPop0, sFrz, frz, sAug, ex_ok, ex_err, ex_bad, then_nx, then_ret, then_brk, then_ct, then_err, optG_some, optG_none, tName, setD, tTupG, tsCons, tsNil, Option.bind_some, List.getElem?_cons_zero, List.getElem?_cons_succ, List.set_cons_zero, List.set_cons_succ, List.length_cons, List.length_nil, Bool.not_true, Bool.not_false, Bool.false_eq_true, if_true, if_false, reduceIte, List.map_cons, List.map_nil, List.cons_append, List.nil_append, List.replicate, Nat.reduceSub, Nat.reduceAdd, Nat.reduceEqDiff, Option.map_some, Option.map_none, outs, Int.reduceAdd, Int.reduceSub, Int.reduceBEq, Int.reduceLT, Int.reduceLE, decide_true, decide_false, beq_self_eq_true, cast_0, cast_1, cast_2, cast_3, cast_4, cast_5, isi_str, isi_tup, addD_i, addI_i, subD_i, leD_i, leD_s, ltD_i, ltD_s, gtD_i, geD_i, eqD_i, neD_i, eqD_b, neD_b, eqD_s, lenD_l, lenD_t, absD_i, intD_i, tupD_l, tupD_t, lstD_l, lstD_t, mkT_0, mkT_1, mkT_2, mkT_3, mkL_0, mkL_1, sized_0, sized_1, ix_0, ix_1, ix_2, isT_t, isT_s, isT_l, isT_i, isT_n, isS_s, isS_t, isS_l, isS_i, isS_n, neD_s, Kd.inj, Mk.inj, Lk.inj, s_km, s_mk, List.length_append, L_c, L_i, L_n, L_a, L_cc, L_ic, L_ii, L_nc, L_ni, L_nn, L_ac, L_ai, L_an, L_aa]
    · unfold e_law_used_5 mOwnL
      simp only [mVar, mC, mMap, mMap2, lift_some, lift_none, bind_ok, bind_err, bind_bad, mCons, mNil, mT, asB_bool, asB, mAnd, mOr, mNot, andV_eq, orV_eq, mNotV, mIf, chain_eq, chK_b, mCall, sSeq, sNext, sIf, sRet, sRetN, sDrop, sAsg, sRaise, sFor, sApp, sOwn, setO, ownAt, mOwn1, mPop0, sFrz, frz, sAug, ex_ok, ex_err, ex_bad, then_nx, then_ret, then_brk, then_ct, then_err, optG_some, optG_none, tName, setD, tTupG, tsCons, tsNil, Option.bind_some, List.getElem?_cons_zero, List.getElem?_cons_succ, List.set_cons_zero, List.set_cons_succ, List.length_cons, List.length_nil, Bool.not_true, Bool.not_false, Bool.false_eq_true, if_true, if_false, reduceIte, List.map_cons, List.map_nil, List.cons_append, List.nil_append, List.replicate, Nat.reduceSub, Nat.reduceAdd, Nat.reduceEqDiff, Option.map_some, Option.map_none, outs, Int.reduceAdd, Int.reduceSub, Int.reduceBEq, Int.reduceLT, Int.reduceLE, decide_true, decide_false, beq_self_eq_true, cast_0, cast_1, cast_2, cast_3, cast_4, cast_5, isi_str, isi_tup, addD_i, addI_i, subD_i, leD_i, leD_s, ltD_i, ltD_s, gtD_i, geD_i, eqD_i, neD_i, eqD_b, neD_b, eqD_s, lenD_l, lenD_t, absD_i, intD_i, tupD_l, tupD_t, lstD_l, lstD_t, mkT_0, mkT_1, mkT_2, mkT_3, mkL_0, mkL_1, sized_0, sized_1, ix_0, ix_1, ix_2, isT_t, isT_s, isT_l, isT_i, isT_n, isS_s, isS_t, isS_l, isS_i, isS_n, neD_s, Kd.inj, Mk.inj, Lk.inj, s_km, s_mk, List.length_append, L_c, L_i, L_n, L_a, L_cc, L_ic, L_ii, L_nc, L_ni, L_nn, L_ac, L_ai, L_an, L_aa, ix])
  rw [show ((List.range N.length).filter fun k => !decide (N.getD k "" ∈ N.take k)).map (fun k => PyData.str (N.getD k "")) = (ded N).map .str by
    have d := ded_range N N.length (Nat.le_refl _)
    rw [List.take_length] at d
    rw [← d, List.map_map]
    rfl] at lc
  have lq : mLc [6] (mMap (mCons (mOwn1 2 lenD) mNil) rng1) (tName 6) t_law_used_6 e_law_used_5 [.dat (tssD a), .dat (.str (wS w)), .own (N.map .str), z3, z4, z5, .un] = .ok ((ded N).map .str) [.dat (tssD a), .dat (.str (wS w)), .own (N.map .str), z3, z4, z5, .un] :=
    mLc_ok (s1 := [.dat (tssD a), .dat (.str (wS w)), .own (N.map .str), z3, z4, z5, .un]) (ds := (List.range N.length).map nat) (by simp only [mVar, mC, mMap, mMap2, lift_some, lift_none, bind_ok, bind_err, bind_bad, mCons, mNil, mT, asB_bool, asB, mAnd, mOr, mNot, andV_eq, orV_eq, mNotV, mIf, chain_eq, chK_b, mCall, sSeq, sNext, sIf, sRet, sRetN, sDrop, sAsg, sRaise, sFor, sApp, sOwn, setO, ownAt, mOwn1, mPop0, sFrz, frz, sAug, ex_ok, ex_err, ex_bad, then_nx, then_ret, then_brk, then_ct, then_err, optG_some, optG_none, tName, setD, tTupG, tsCons, tsNil, Option.bind_some, List.getElem?_cons_zero, List.getElem?_cons_succ, List.set_cons_zero, List.set_cons_succ, List.length_cons, List.length_nil, Bool.not_true, Bool.not_false, Bool.false_eq_true, if_true, if_false, reduceIte, List.map_cons, List.map_nil, List.cons_append, List.nil_append, List.replicate, Nat.reduceSub, Nat.reduceAdd, Nat.reduceEqDiff, Option.map_some, Option.map_none, outs, Int.reduceAdd, Int.reduceSub, Int.reduceBEq, Int.reduceLT, Int.reduceLE, decide_true, decide_false, beq_self_eq_true, cast_0, cast_1, cast_2, cast_3, cast_4, cast_5, isi_str, isi_tup, addD_i, addI_i, subD_i, leD_i, leD_s, ltD_i, ltD_s, gtD_i, geD_i, eqD_i, neD_i, eqD_b, neD_b, eqD_s, lenD_l, lenD_t, absD_i, intD_i, tupD_l, tupD_t, lstD_l, lstD_t, mkT_0, mkT_1, mkT_2, mkT_3, mkL_0, mkL_1, sized_0, sized_1, ix_0, ix_1, ix_2, isT_t, isT_s, isT_l, isT_i, isT_n, isS_s, isS_t, isS_l, isS_i, isS_n, neD_s, Kd.inj, Mk.inj, Lk.inj, s_km, s_mk, List.length_append, L_c, L_i, L_n, L_a, L_cc, L_ic, L_ii, L_nc, L_ni, L_nn, L_ac, L_ai, L_an, L_aa, List.length_map]; rw [rng_nat (by omega)]; rfl) rfl lc (by rw [List.length_map]; exact small_line (by have := ded_le N; omega)) rfl
  have sq : sortL (.list ((ded N).map .str)) = some (((ded N).mergeSort leS).map .str) := by
    show (match strsOf ((ded N).map .str) with | some ks => if ks.length ≤ sizeLine then some ((ks.mergeSort leS).map PyData.str) else none | none => none) = _
    rw [strsOf_map]
    exact if_pos (small_line (by have := ded_le N; omega))
  unfold g_law_used
  refine (seq_nx (s1 := [.dat (tssD a), .dat (.str (wS w)), .own [], .un, .un, .un, .un]) rfl).trans ?_
  refine (seq_nx (s1 := [.dat (tssD a), .dat (.str (wS w)), .own (N.map .str), z3, z4, z5, .un]) (sfor_nx ?_ q)).trans ?_
  · simp only [mVar, mC, mMap, mMap2, lift_some, lift_none, bind_ok, bind_err, bind_bad, mCons, mNil, mT, asB_bool, asB, mAnd, mOr, mNot, andV_eq, orV_eq, mNotV, mIf, chain_eq, chK_b, mCall, sSeq, sNext, sIf, sRet, sRetN, sDrop, sAsg, sRaise, sFor, sApp, sOwn, setO, ownAt, mOwn1, mPop0, sFrz, frz, sAug, ex_ok, ex_err, ex_bad, then_nx, then_ret, then_brk, then_ct, then_err, optG_some, optG_none, tName, setD, tTupG, tsCons, tsNil, Option.bind_some, List.getElem?_cons_zero, List.getElem?_cons_succ, List.set_cons_zero, List.set_cons_succ, List.length_cons, List.length_nil, Bool.not_true, Bool.not_false, Bool.false_eq_true, if_true, if_false, reduceIte, List.map_cons, List.map_nil, List.cons_append, List.nil_append, List.replicate, Nat.reduceSub, Nat.reduceAdd, Nat.reduceEqDiff, Option.map_some, Option.map_none, outs, Int.reduceAdd, Int.reduceSub, Int.reduceBEq, Int.reduceLT, Int.reduceLE, decide_true, decide_false, beq_self_eq_true, cast_0, cast_1, cast_2, cast_3, cast_4, cast_5, isi_str, isi_tup, addD_i, addI_i, subD_i, leD_i, leD_s, ltD_i, ltD_s, gtD_i, geD_i, eqD_i, neD_i, eqD_b, neD_b, eqD_s, lenD_l, lenD_t, absD_i, intD_i, tupD_l, tupD_t, lstD_l, lstD_t, mkT_0, mkT_1, mkT_2, mkT_3, mkL_0, mkL_1, sized_0, sized_1, ix_0, ix_1, ix_2, isT_t, isT_s, isT_l, isT_i, isT_n, isS_s, isS_t, isS_l, isS_i, isS_n, neD_s, Kd.inj, Mk.inj, Lk.inj, s_km, s_mk, List.length_append, L_c, L_i, L_n, L_a, L_cc, L_ic, L_ii, L_nc, L_ni, L_nn, L_ac, L_ai, L_an, L_aa, items]
  · simp only [mVar, mC, mMap, mMap2, lift_some, lift_none, bind_ok, bind_err, bind_bad, mCons, mNil, mT, asB_bool, asB, mAnd, mOr, mNot, andV_eq, orV_eq, mNotV, mIf, chain_eq, chK_b, mCall, sSeq, sNext, sIf, sRet, sRetN, sDrop, sAsg, sRaise, sFor, sApp, sOwn, setO, ownAt, mOwn1, mPop0, sFrz, frz, sAug, ex_ok, ex_err, ex_bad, then_nx, then_ret, then_brk, then_ct, then_err, optG_some, optG_none, tName, setD, tTupG, tsCons, tsNil, Option.bind_some, List.getElem?_cons_zero, List.getElem?_cons_succ, List.set_cons_zero, List.set_cons_succ, List.length_cons, List.length_nil, Bool.not_true, Bool.not_false, Bool.false_eq_true, if_true, if_false, reduceIte, List.map_cons, List.map_nil, List.cons_append, List.nil_append, List.replicate, Nat.reduceSub, Nat.reduceAdd, Nat.reduceEqDiff, Option.map_some, Option.map_none, outs, Int.reduceAdd, Int.reduceSub, Int.reduceBEq, Int.reduceLT, Int.reduceLE, decide_true, decide_false, beq_self_eq_true, cast_0, cast_1, cast_2, cast_3, cast_4, cast_5, isi_str, isi_tup, addD_i, addI_i, subD_i, leD_i, leD_s, ltD_i, ltD_s, gtD_i, geD_i, eqD_i, neD_i, eqD_b, neD_b, eqD_s, lenD_l, lenD_t, absD_i, intD_i, tupD_l, tupD_t, lstD_l, lstD_t, mkT_0, mkT_1, mkT_2, mkT_3, mkL_0, mkL_1, sized_0, sized_1, ix_0, ix_1, ix_2, isT_t, isT_s, isT_l, isT_i, isT_n, isS_s, isS_t, isS_l, isS_i, isS_n, neD_s, Kd.inj, Mk.inj, Lk.inj, s_km, s_mk, List.length_append, L_c, L_i, L_n, L_a, L_cc, L_ic, L_ii, L_nc, L_ni, L_nn, L_ac, L_ai, L_an, L_aa, mL, lq, sq]
/-! ### subsets -/
def rowD (r : List Str) : D := .tuple (r.map .str)
def subs (ns : List Str) : List (List Str) := ns.foldl (fun f x => f ++ f.map (· ++ [x])) [[]]
theorem subs_snoc (ns : List Str) (x : Str) : subs (ns ++ [x]) = subs ns ++ (subs ns).map (· ++ [x]) := by
  unfold subs
  rw [List.foldl_append]
  rfl
theorem subs_b (ns : List Str) : (subs ns).length = 2 ^ ns.length ∧ ∀ r ∈ subs ns, r.length ≤ ns.length := by
  refine snoc_ind (P := fun ns => (subs ns).length = 2 ^ ns.length ∧ ∀ r ∈ subs ns, r.length ≤ ns.length) ⟨rfl, fun r h => by rw [List.mem_singleton.mp h]; exact Nat.le_refl _⟩ (fun xs x ih => ?_) ns
  rw [subs_snoc, List.length_append, List.length_map, List.length_append, List.length_singleton, ih.1]
  refine ⟨by rw [Nat.pow_succ]; omega, fun r h => ?_⟩
  rcases List.mem_append.mp h with h | h
  · have := ih.2 r h; omega
  · obtain ⟨r', h', rfl⟩ := List.mem_map.mp h
    rw [List.length_append, List.length_singleton]
    have := ih.2 r' h'; omega
theorem subs_mem (ns : List Str) : ∀ r ∈ subs ns, ∀ x ∈ r, x ∈ ns := by
  refine snoc_ind (P := fun ns => ∀ r ∈ subs ns, ∀ x ∈ r, x ∈ ns) (fun r h x hx => by rw [List.mem_singleton.mp h] at hx; cases hx) (fun xs y ih r h x hx => ?_) ns
  rw [subs_snoc] at h
  rcases List.mem_append.mp h with h | h
  · exact List.mem_append_left _ (ih r h x hx)
  · obtain ⟨r', h', rfl⟩ := List.mem_map.mp h
    rcases List.mem_append.mp hx with hx | hx
    · exact List.mem_append_left _ (ih r' h' x hx)
    · exact List.mem_append_right _ hx
theorem pow_le5 {n : Nat} (h : n ≤ 5) : 2 ^ n ≤ 32 := Nat.pow_le_pow_right (by decide) h (n := 2)
theorem row_step {r : List Str} {x : Str} (h : r.length ≤ 100) : (mkT [PyData.str x]).bind (fun t => addD (rowD r) t) = some (rowD (r ++ [x])) := by
  rw [mkT_1]
  show addD (.tuple (r.map .str)) (.tuple ([x].map .str)) = _
  rw [addT_sm (by rw [List.length_map, List.length_map, List.length_singleton]; omega), strs_map]
  rfl
theorem add_rows {R Q : List (List Str)} (h : R.length + Q.length ≤ 1000) : addD (.list (R.map rowD)) (.list (Q.map rowD)) = some (.list ((R ++ Q).map rowD)) := by
  rw [addL_sm (by rw [List.length_map, List.length_map]; omega), List.map_append]
theorem subsets_body {A : D} {R : List (List Str)} {x : Str} {z3 : Sl} (h3 : NO z3) (hr : ∀ r ∈ R, r.length ≤ 100) (hl : R.length ≤ 100) :
    b_subsets_2 [.dat A, .dat (.list (R.map rowD)), .dat (.str x), z3] = .nx [.dat A, .dat (.list ((R ++ R.map (· ++ [x])).map rowD)), .dat (.str x), z3] := by
  have lc := lc_typed (vs := [3]) (t := tName 3) (elt := e_subsets_1) (s := [.dat A, .dat (.list (R.map rowD)), .dat (.str x), .un]) rowD (fun r => rowD (r ++ [x])) (xs := R) (fun r h => by
    refine ⟨[.dat A, .dat (.list (R.map rowD)), .dat (.str x), .dat (rowD r)], rfl, ?_, rfl⟩
    have e := row_step (r := r) (x := x) (hr r h)
    rw [mkT_1] at e
    have e : addD (rowD r) (.tuple [.str x]) = some (rowD (r ++ [x])) := e
    unfold e_subsets_1
    simp only [mVar, mC, mMap, mMap2, lift_some, lift_none, bind_ok, bind_err, bind_bad, mCons, mNil, mT, asB_bool, asB, mAnd, mOr, mNot, andV_eq, orV_eq, mNotV, mIf, chain_eq, chK_b, mCall, sSeq, sNext, sIf, sRet, sRetN, sDrop, sAsg, sRaise, sFor, sApp, sOwn, setO, ownAt, mOwn1, mPop0, sFrz, frz, sAug, ex_ok, ex_err, ex_bad, then_nx, then_ret, then_brk, then_ct, then_err, optG_some, optG_none, tName, setD, tTupG, tsCons, tsNil, Option.bind_some, List.getElem?_cons_zero, List.getElem?_cons_succ, List.set_cons_zero, List.set_cons_succ, List.length_cons, List.length_nil, Bool.not_true, Bool.not_false, Bool.false_eq_true, if_true, if_false, reduceIte, List.map_cons, List.map_nil, List.cons_append, List.nil_append, List.replicate, Nat.reduceSub, Nat.reduceAdd, Nat.reduceEqDiff, Option.map_some, Option.map_none, outs, Int.reduceAdd, Int.reduceSub, Int.reduceBEq, Int.reduceLT, Int.reduceLE, decide_true, decide_false, beq_self_eq_true, cast_0, cast_1, cast_2, cast_3, cast_4, cast_5, isi_str, isi_tup, addD_i, addI_i, subD_i, leD_i, leD_s, ltD_i, ltD_s, gtD_i, geD_i, eqD_i, neD_i, eqD_b, neD_b, eqD_s, lenD_l, lenD_t, absD_i, intD_i, tupD_l, tupD_t, lstD_l, lstD_t, mkT_0, mkT_1, mkT_2, mkT_3, mkL_0, mkL_1, sized_0, sized_1, ix_0, ix_1, ix_2, isT_t, isT_s, isT_l, isT_i, isT_n, isS_s, isS_t, isS_l, isS_i, isS_n, neD_s, Kd.inj, Mk.inj, Lk.inj, s_km, s_mk, List.length_append, L_c, L_i, L_n, L_a, L_cc, L_ic, L_ii, L_nc, L_ni, L_nn, L_ac, L_ai, L_an, L_aa, e])
  have lq : mLc [3] (mMap (mVar 1) items) (tName 3) mYes e_subsets_1 [.dat A, .dat (.list (R.map rowD)), .dat (.str x), z3] = .ok ((R.map (· ++ [x])).map rowD) [.dat A, .dat (.list (R.map rowD)), .dat (.str x), z3] := by
    refine mLc_ok (s1 := [.dat A, .dat (.list (R.map rowD)), .dat (.str x), z3]) (ds := R.map rowD) (by simp only [mVar, mC, mMap, mMap2, lift_some, lift_none, bind_ok, bind_err, bind_bad, mCons, mNil, mT, asB_bool, asB, mAnd, mOr, mNot, andV_eq, orV_eq, mNotV, mIf, chain_eq, chK_b, mCall, sSeq, sNext, sIf, sRet, sRetN, sDrop, sAsg, sRaise, sFor, sApp, sOwn, setO, ownAt, mOwn1, mPop0, sFrz, frz, sAug, ex_ok, ex_err, ex_bad, then_nx, then_ret, then_brk, then_ct, then_err, optG_some, optG_none, tName, setD, tTupG, tsCons, tsNil, Option.bind_some, List.getElem?_cons_zero, List.getElem?_cons_succ, List.set_cons_zero, List.set_cons_succ, List.length_cons, List.length_nil, Bool.not_true, Bool.not_false, Bool.false_eq_true, if_true, if_false, reduceIte, List.map_cons, List.map_nil, List.cons_append, List.nil_append, List.replicate, Nat.reduceSub, Nat.reduceAdd, Nat.reduceEqDiff, Option.map_some, Option.map_none, outs, Int.reduceAdd, Int.reduceSub, Int.reduceBEq, Int.reduceLT, Int.reduceLE, decide_true, decide_false, beq_self_eq_true, cast_0, cast_1, cast_2, cast_3, cast_4, cast_5, isi_str, isi_tup, addD_i, addI_i, subD_i, leD_i, leD_s, ltD_i, ltD_s, gtD_i, geD_i, eqD_i, neD_i, eqD_b, neD_b, eqD_s, lenD_l, lenD_t, absD_i, intD_i, tupD_l, tupD_t, lstD_l, lstD_t, mkT_0, mkT_1, mkT_2, mkT_3, mkL_0, mkL_1, sized_0, sized_1, ix_0, ix_1, ix_2, isT_t, isT_s, isT_l, isT_i, isT_n, isS_s, isS_t, isS_l, isS_i, isS_n, neD_s, Kd.inj, Mk.inj, Lk.inj, s_km, s_mk, List.length_append, L_c, L_i, L_n, L_a, L_cc, L_ic, L_ii, L_nc, L_ni, L_nn, L_ac, L_ai, L_an, L_aa, items]) ?_ (s2 := [.dat A, .dat (.list (R.map rowD)), .dat (.str x), .un]) ?_ ?_ rfl
    · cases z3 <;> first | rfl | exact h3.elim
    · rw [List.map_map]; exact lc
    · rw [List.length_map, List.length_map]; exact small_line (by omega)
  unfold b_subsets_2
  simp only [mVar, mC, mMap, mMap2, lift_some, lift_none, bind_ok, bind_err, bind_bad, mCons, mNil, mT, asB_bool, asB, mAnd, mOr, mNot, andV_eq, orV_eq, mNotV, mIf, chain_eq, chK_b, mCall, sSeq, sNext, sIf, sRet, sRetN, sDrop, sAsg, sRaise, sFor, sApp, sOwn, setO, ownAt, mOwn1, mPop0, sFrz, frz, sAug, ex_ok, ex_err, ex_bad, then_nx, then_ret, then_brk, then_ct, then_err, optG_some, optG_none, tName, setD, tTupG, tsCons, tsNil, Option.bind_some, List.getElem?_cons_zero, List.getElem?_cons_succ, List.set_cons_zero, List.set_cons_succ, List.length_cons, List.length_nil, Bool.not_true, Bool.not_false, Bool.false_eq_true, if_true, if_false, reduceIte, List.map_cons, List.map_nil, List.cons_append, List.nil_append, List.replicate, Nat.reduceSub, Nat.reduceAdd, Nat.reduceEqDiff, Option.map_some, Option.map_none, outs, Int.reduceAdd, Int.reduceSub, Int.reduceBEq, Int.reduceLT, Int.reduceLE, decide_true, decide_false, beq_self_eq_true, cast_0, cast_1, cast_2, cast_3, cast_4, cast_5, isi_str, isi_tup, addD_i, addI_i, subD_i, leD_i, leD_s, ltD_i, ltD_s, gtD_i, geD_i, eqD_i, neD_i, eqD_b, neD_b, eqD_s, lenD_l, lenD_t, absD_i, intD_i, tupD_l, tupD_t, lstD_l, lstD_t, mkT_0, mkT_1, mkT_2, mkT_3, mkL_0, mkL_1, sized_0, sized_1, ix_0, ix_1, ix_2, isT_t, isT_s, isT_l, isT_i, isT_n, isS_s, isS_t, isS_l, isS_i, isS_n, neD_s, Kd.inj, Mk.inj, Lk.inj, s_km, s_mk, List.length_append, L_c, L_i, L_n, L_a, L_cc, L_ic, L_ii, L_nc, L_ni, L_nn, L_ac, L_ai, L_an, L_aa, mL, lq, add_rows (R := R) (Q := R.map (· ++ [x])) (by rw [List.length_map]; omega)]
theorem subsets_eq {ns : List Str} (h : ns.length ≤ 5) : F_subsets [.dat (.list (ns.map .str))] = .ok (.list ((subs ns).map rowD)) [.dat (.list (ns.map .str))] := by
  obtain ⟨s', q, z2, z3, k2, k3, rfl⟩ := for_pre (t := tName 2) (body := b_subsets_2) PyData.str (fun pre st => ∃ z2 z3, NO z2 ∧ NO z3 ∧ st = [.dat (.list (ns.map .str)), .dat (.list ((subs pre).map rowD)), z2, z3]) ns ns []
      [.dat (.list (ns.map .str)), .dat (.list [.tuple []]), .un, .un] rfl ⟨.un, .un, trivial, trivial, rfl⟩ (fun pre x st hx => by
        rintro ⟨z2, z3, h2, h3, rfl⟩
        obtain ⟨post, e⟩ := hx
        have hp : pre.length ≤ 4 := by rw [← e, List.length_append, List.length_cons] at h; omega
        have hb := subs_b pre
        have := pow_le5 (n := pre.length) (by omega)
        exact ⟨_, _, set_no h2 rfl, subsets_body (A := .list (ns.map .str)) (R := subs pre) (x := x) h3 (fun r hr => by have := hb.2 r hr; omega) (by omega), .dat (.str x), z3, trivial, h3, by rw [subs_snoc]⟩)
  refine run_of (st := [.dat (.list (ns.map .str)), .un, .un, .un]) ⟨[.dat (.list (ns.map .str)), .dat (.list ((subs ns).map rowD)), z2, z3], ?_, rfl⟩
  unfold g_subsets
  refine (seq_nx (s1 := [.dat (.list (ns.map .str)), .dat (.list [.tuple []]), .un, .un]) ?_).trans ?_
  · simp only [mVar, mC, mMap, mMap2, lift_some, lift_none, bind_ok, bind_err, bind_bad, mCons, mNil, mT, asB_bool, asB, mAnd, mOr, mNot, andV_eq, orV_eq, mNotV, mIf, chain_eq, chK_b, mCall, sSeq, sNext, sIf, sRet, sRetN, sDrop, sAsg, sRaise, sFor, sApp, sOwn, setO, ownAt, mOwn1, mPop0, sFrz, frz, sAug, ex_ok, ex_err, ex_bad, then_nx, then_ret, then_brk, then_ct, then_err, optG_some, optG_none, tName, setD, tTupG, tsCons, tsNil, Option.bind_some, List.getElem?_cons_zero, List.getElem?_cons_succ, List.set_cons_zero, List.set_cons_succ, List.length_cons, List.length_nil, Bool.not_true, Bool.not_false, Bool.false_eq_true, if_true, if_false, reduceIte, List.map_cons, List.map_nil, List.cons_append, List.nil_append, List.replicate, Nat.reduceSub, Nat.reduceAdd, Nat.reduceEqDiff, Option.map_some, Option.map_none, outs, Int.reduceAdd, Int.reduceSub, Int.reduceBEq, Int.reduceLT, Int.reduceLE, decide_true, decide_false, beq_self_eq_true, cast_0, cast_1, cast_2, cast_3, cast_4, cast_5, isi_str, isi_tup, addD_i, addI_i, subD_i, leD_i, leD_s, ltD_i, ltD_s, gtD_i, geD_i, eqD_i, neD_i, eqD_b, neD_b, eqD_s, lenD_l, lenD_t, absD_i, intD_i, tupD_l, tupD_t, lstD_l, lstD_t, mkT_0, mkT_1, mkT_2, mkT_3, mkL_0, mkL_1, sized_0, sized_1, ix_0, ix_1, ix_2, isT_t, isT_s, isT_l, isT_i, isT_n, isS_s, isS_t, isS_l, isS_i, isS_n, neD_s, Kd.inj, Mk.inj, Lk.inj, s_km, s_mk, List.length_append, L_c, L_i, L_n, L_a, L_cc, L_ic, L_ii, L_nc, L_ni, L_nn, L_ac, L_ai, L_an, L_aa]
  refine (seq_nx (sfor_nx ?_ q)).trans ?_
  · simp only [mVar, mC, mMap, mMap2, lift_some, lift_none, bind_ok, bind_err, bind_bad, mCons, mNil, mT, asB_bool, asB, mAnd, mOr, mNot, andV_eq, orV_eq, mNotV, mIf, chain_eq, chK_b, mCall, sSeq, sNext, sIf, sRet, sRetN, sDrop, sAsg, sRaise, sFor, sApp, sOwn, setO, ownAt, mOwn1, mPop0, sFrz, frz, sAug, ex_ok, ex_err, ex_bad, then_nx, then_ret, then_brk, then_ct, then_err, optG_some, optG_none, tName, setD, tTupG, tsCons, tsNil, Option.bind_some, List.getElem?_cons_zero, List.getElem?_cons_succ, List.set_cons_zero, List.set_cons_succ, List.length_cons, List.length_nil, Bool.not_true, Bool.not_false, Bool.false_eq_true, if_true, if_false, reduceIte, List.map_cons, List.map_nil, List.cons_append, List.nil_append, List.replicate, Nat.reduceSub, Nat.reduceAdd, Nat.reduceEqDiff, Option.map_some, Option.map_none, outs, Int.reduceAdd, Int.reduceSub, Int.reduceBEq, Int.reduceLT, Int.reduceLE, decide_true, decide_false, beq_self_eq_true, cast_0, cast_1, cast_2, cast_3, cast_4, cast_5, isi_str, isi_tup, addD_i, addI_i, subD_i, leD_i, leD_s, ltD_i, ltD_s, gtD_i, geD_i, eqD_i, neD_i, eqD_b, neD_b, eqD_s, lenD_l, lenD_t, absD_i, intD_i, tupD_l, tupD_t, lstD_l, lstD_t, mkT_0, mkT_1, mkT_2, mkT_3, mkL_0, mkL_1, sized_0, sized_1, ix_0, ix_1, ix_2, isT_t, isT_s, isT_l, isT_i, isT_n, isS_s, isS_t, isS_l, isS_i, isS_n, neD_s, Kd.inj, Mk.inj, Lk.inj, s_km, s_mk, List.length_append, L_c, L_i, L_n, L_a, L_cc, L_ic, L_ii, L_nc, L_ni, L_nn, L_ac, L_ai, L_an, L_aa, items]
  · simp only [mVar, mC, mMap, mMap2, lift_some, lift_none, bind_ok, bind_err, bind_bad, mCons, mNil, mT, asB_bool, asB, mAnd, mOr, mNot, andV_eq, orV_eq, mNotV, mIf, chain_eq, chK_b, mCall, sSeq, sNext, sIf, sRet, sRetN, sDrop, sAsg, sRaise, sFor, sApp, sOwn, setO, ownAt, mOwn1, mPop0, sFrz, frz, sAug, ex_ok, ex_err, ex_bad, then_nx, then_ret, then_brk, then_ct, then_err, optG_some, optG_none, tName, setD, tTupG, tsCons, tsNil, Option.bind_some, List.getElem?_cons_zero, List.getElem?_cons_succ, List.set_cons_zero, List.set_cons_succ, List.length_cons, List.length_nil, Bool.not_true, Bool.not_false, Bool.false_eq_true, if_true, if_false, reduceIte, List.map_cons, List.map_nil, List.cons_append, List.nil_append, List.replicate, Nat.reduceSub, Nat.reduceAdd, Nat.reduceEqDiff, Option.map_some, Option.map_none, outs, Int.reduceAdd, Int.reduceSub, Int.reduceBEq, Int.reduceLT, Int.reduceLE, decide_true, decide_false, beq_self_eq_true, cast_0, cast_1, cast_2, cast_3, cast_4, cast_5, isi_str, isi_tup, addD_i, addI_i, subD_i, leD_i, leD_s, ltD_i, ltD_s, gtD_i, geD_i, eqD_i, neD_i, eqD_b, neD_b, eqD_s, lenD_l, lenD_t, absD_i, intD_i, tupD_l, tupD_t, lstD_l, lstD_t, mkT_0, mkT_1, mkT_2, mkT_3, mkL_0, mkL_1, sized_0, sized_1, ix_0, ix_1, ix_2, isT_t, isT_s, isT_l, isT_i, isT_n, isS_s, isS_t, isS_l, isS_i, isS_n, neD_s, Kd.inj, Mk.inj, Lk.inj, s_km, s_mk, List.length_append, L_c, L_i, L_n, L_a, L_cc, L_ic, L_ii, L_nc, L_ni, L_nn, L_ac, L_ai, L_an, L_aa]
end DL

namespace DL
open PySem PySem.Spec L2
open PySem.W (dataLe)
/-! ### letters -/
def prs (ks : List Str) (ms : List Str) : List Pr := (ks ++ [("z" : Str)]).flatMap fun k => (subs ms).map fun r => (k, r)
def LT (ks ms : List Str) : List Pr := (prs ks ms).mergeSort (dataLe false keyP)
theorem dPr_row (k : Str) (r : List Str) : dPr (k, r) = .tuple [.str k, rowD r] := rfl
theorem pairsOf_map : ∀ {ps : List Pr}, (∀ p ∈ ps, p.2.length ≤ 1000) → pairsOf (ps.map dPr) = some ps
  | [], _ => rfl
  | p :: r, h => by
    have e : pairOf (dPr p) = some p := by
      show (match strsOf (p.2.map .str) with | some ks => if ks.length ≤ 1000 then some (p.1, ks) else none | none => none) = _
      rw [strsOf_map]
      exact if_pos (h p List.mem_cons_self)
    show ((pairOf (dPr p)).bind fun q => (pairsOf (r.map dPr)).map (q :: ·)) = _
    rw [e, pairsOf_map fun q hq => h q (List.mem_cons_of_mem _ hq)]
    rfl
theorem sortP_map {ps : List Pr} (h : ∀ p ∈ ps, p.2.length ≤ 1000) (hz : ps.length ≤ 100000) : sortP (.list (ps.map dPr)) = some ((ps.mergeSort (dataLe false keyP)).map dPr) := by
  show (match pairsOf (ps.map dPr) with | some ps => if ps.length ≤ sizeLine then some ((ps.mergeSort (dataLe false keyP)).map dPr) else none | none => none) = _
  rw [pairsOf_map h]
  exact if_pos (small_line hz)
theorem flat_len {α β : Type} {f : α → List β} {n : Nat} : ∀ {xs : List α}, (∀ x ∈ xs, (f x).length = n) → (xs.flatMap f).length = xs.length * n
  | [], _ => by simp
  | x :: r, h => by
    rw [List.flatMap_cons, List.length_append, h x List.mem_cons_self, flat_len fun y hy => h y (List.mem_cons_of_mem _ hy), List.length_cons, Nat.succ_mul]
    omega
theorem prs_b {ks ms : List Str} (hk : ks.length ≤ 5) (hm : ms.length ≤ 4) : (prs ks ms).length ≤ 1000 ∧ ∀ p ∈ prs ks ms, p.2.length ≤ 1000 := by
  have hb := subs_b ms
  have := pow_le5 (n := ms.length) (by omega)
  constructor
  · unfold prs
    rw [flat_len (n := 2 ^ ms.length) fun x _ => by rw [List.length_map, hb.1], List.length_append, List.length_singleton]
    have : (ks.length + 1) * 2 ^ ms.length ≤ 6 * 32 := Nat.mul_le_mul (by omega) this
    omega
  · intro p hp
    obtain ⟨k, _, h⟩ := List.mem_flatMap.mp hp
    obtain ⟨r, hr, rfl⟩ := List.mem_map.mp h
    have := hb.2 r hr
    show r.length ≤ 1000
    omega
theorem while_stop {n : Nat} {t : M Bool} {b : G} {s s1 : Sts} (h : t s = .ok false s1) : sWhile (n + 1) t b s = .nx s1 := by
  show whileG t b (n + 1) s = _
  unfold whileG
  rw [h]
  rfl
section
variable {a b : List TS}
theorem letters_st1 (h : Bd1 a b) : (sAsg (mMap (mCons (mCall 2 F_used_kinds (mCons (mVar 0) (mCons (mVar 1) mNil))) (mCons (mCall 2 F_used_marks (mCons (mVar 0) (mCons (mVar 1) mNil))) mNil)) mkT) (tTupG 2 (tsCons (tName 2) (tsCons (tName 3) tsNil)))) [.dat (tssD a), .dat (tssD b), .un, .un, .un, .un, .un, .un] = .nx [.dat (tssD a), .dat (tssD b), .dat (.list ((skn (a ++ b)).map .str)), .dat (.list ((smn (a ++ b)).map .str)), .un, .un, .un, .un] := by
  simp only [mVar, mC, mMap, mMap2, lift_some, lift_none, bind_ok, bind_err, bind_bad, mCons, mNil, mT, asB_bool, asB, mAnd, mOr, mNot, andV_eq, orV_eq, mNotV, mIf, chain_eq, chK_b, mCall, sSeq, sNext, sIf, sRet, sRetN, sDrop, sAsg, sRaise, sFor, sApp, sOwn, setO, ownAt, mOwn1, mPop0, sFrz, frz, sAug, ex_ok, ex_err, ex_bad, then_nx, then_ret, then_brk, then_ct, then_err, optG_some, optG_none, tName, setD, tTupG, tsCons, tsNil, Option.bind_some, List.getElem?_cons_zero, List.getElem?_cons_succ, List.set_cons_zero, List.set_cons_succ, List.length_cons, List.length_nil, Bool.not_true, Bool.not_false, Bool.false_eq_true, if_true, if_false, reduceIte, List.map_cons, List.map_nil, List.cons_append, List.nil_append, List.replicate, Nat.reduceSub, Nat.reduceAdd, Nat.reduceEqDiff, Option.map_some, Option.map_none, outs, Int.reduceAdd, Int.reduceSub, Int.reduceBEq, Int.reduceLT, Int.reduceLE, decide_true, decide_false, beq_self_eq_true, cast_0, cast_1, cast_2, cast_3, cast_4, cast_5, isi_str, isi_tup, addD_i, addI_i, subD_i, leD_i, leD_s, ltD_i, ltD_s, gtD_i, geD_i, eqD_i, neD_i, eqD_b, neD_b, eqD_s, lenD_l, lenD_t, absD_i, intD_i, tupD_l, tupD_t, lstD_l, lstD_t, mkT_0, mkT_1, mkT_2, mkT_3, mkL_0, mkL_1, sized_0, sized_1, ix_0, ix_1, ix_2, isT_t, isT_s, isT_l, isT_i, isT_n, isS_s, isS_t, isS_l, isS_i, isS_n, neD_s, Kd.inj, Mk.inj, Lk.inj, s_km, s_mk, List.length_append, L_c, L_i, L_n, L_a, L_cc, L_ic, L_ii, L_nc, L_ni, L_nn, L_ac, L_ai, L_an, L_aa, used_kinds_eq h, used_marks_eq h]
theorem letters_eq (h : Bd1 a b) (hk : (skn (a ++ b)).length ≤ 5) (hm : (smn (a ++ b)).length ≤ 4) (hz : ("z" : Str) ∉ skn (a ++ b)) : F_letters [.dat (tssD a), .dat (tssD b)] = .ok (.list ((LT (skn (a ++ b)) (smn (a ++ b))).map dPr)) [.dat (tssD a), .dat (tssD b)] := by
  have st1 := letters_st1 h
  generalize skn (a ++ b) = K at *
  generalize smn (a ++ b) = M at *
  have hk' : ¬ ((5 : Int) < (K.length : Int)) := by omega
  have hm' : ¬ ((4 : Int) < (M.length : Int)) := by omega
  have sb := subsets_eq (ns := M) (by omega)
  have pb := prs_b hk hm
  have e1 : addD (.list (K.map .str)) (.list [.str "z"]) = some (.list ((K ++ [("z" : Str)]).map .str)) := by
    rw [addL_sm (by rw [List.length_map, List.length_singleton]; omega), List.map_append]
    rfl
  have lc := lc2_typed (vs := [6, 7]) (vs1 := [7]) (t := tName 6) (fi1 := mMap (mCall 1 F_subsets (mCons (mVar 3) mNil)) items) (t1 := tName 7) (elt := e_letters_2) (s := [.dat (tssD a), .dat (tssD b), .dat (.list (K.map .str)), .dat (.list (M.map .str)), .dat (.str "z"), .un, .un, .un])
    PyData.str (fun _ => subs M) rowD (fun k r => dPr (k, r)) (xs := K ++ [("z" : Str)]) (fun k _ => by
      refine ⟨[.dat (tssD a), .dat (tssD b), .dat (.list (K.map .str)), .dat (.list (M.map .str)), .dat (.str "z"), .un, .dat (.str k), .un], rfl, ?_, rfl, rfl, fun r _ => ⟨[.dat (tssD a), .dat (tssD b), .dat (.list (K.map .str)), .dat (.list (M.map .str)), .dat (.str "z"), .un, .dat (.str k), .dat (rowD r)], rfl, ?_, rfl⟩⟩
      · simp only [mVar, mC, mMap, mMap2, lift_some, lift_none, bind_ok, bind_err, bind_bad, mCons, mNil, mT, asB_bool, asB, mAnd, mOr, mNot, andV_eq, orV_eq, mNotV, mIf, chain_eq, chK_b, mCall, sSeq, sNext, sIf, sRet, sRetN, sDrop, sAsg, sRaise, sFor, sApp, sOwn, setO, ownAt, mOwn1, mPop0, sFrz, frz, sAug, ex_ok, ex_err, ex_bad, then_nx, then_ret, then_brk, then_ct, then_err, optG_some, optG_none, tName, setD, tTupG, tsCons, tsNil, Option.bind_some, List.getElem?_cons_zero, List.getElem?_cons_succ, List.set_cons_zero, List.set_cons_succ, List.length_cons, List.length_nil, Bool.not_true, Bool.not_false, Bool.false_eq_true, if_true, if_false, reduceIte, List.map_cons, List.map_nil, List.cons_append, List.nil_append, List.replicate, Nat.reduceSub, Nat.reduceAdd, Nat.reduceEqDiff, Option.map_some, Option.map_none, outs, Int.reduceAdd, Int.reduceSub, Int.reduceBEq, Int.reduceLT, Int.reduceLE, decide_true, decide_false, beq_self_eq_true, cast_0, cast_1, cast_2, cast_3, cast_4, cast_5, isi_str, isi_tup, addD_i, addI_i, subD_i, leD_i, leD_s, ltD_i, ltD_s, gtD_i, geD_i, eqD_i, neD_i, eqD_b, neD_b, eqD_s, lenD_l, lenD_t, absD_i, intD_i, tupD_l, tupD_t, lstD_l, lstD_t, mkT_0, mkT_1, mkT_2, mkT_3, mkL_0, mkL_1, sized_0, sized_1, ix_0, ix_1, ix_2, isT_t, isT_s, isT_l, isT_i, isT_n, isS_s, isS_t, isS_l, isS_i, isS_n, neD_s, Kd.inj, Mk.inj, Lk.inj, s_km, s_mk, List.length_append, L_c, L_i, L_n, L_a, L_cc, L_ic, L_ii, L_nc, L_ni, L_nn, L_ac, L_ai, L_an, L_aa, sb, items]
      · unfold e_letters_2
        simp only [mVar, mC, mMap, mMap2, lift_some, lift_none, bind_ok, bind_err, bind_bad, mCons, mNil, mT, asB_bool, asB, mAnd, mOr, mNot, andV_eq, orV_eq, mNotV, mIf, chain_eq, chK_b, mCall, sSeq, sNext, sIf, sRet, sRetN, sDrop, sAsg, sRaise, sFor, sApp, sOwn, setO, ownAt, mOwn1, mPop0, sFrz, frz, sAug, ex_ok, ex_err, ex_bad, then_nx, then_ret, then_brk, then_ct, then_err, optG_some, optG_none, tName, setD, tTupG, tsCons, tsNil, Option.bind_some, List.getElem?_cons_zero, List.getElem?_cons_succ, List.set_cons_zero, List.set_cons_succ, List.length_cons, List.length_nil, Bool.not_true, Bool.not_false, Bool.false_eq_true, if_true, if_false, reduceIte, List.map_cons, List.map_nil, List.cons_append, List.nil_append, List.replicate, Nat.reduceSub, Nat.reduceAdd, Nat.reduceEqDiff, Option.map_some, Option.map_none, outs, Int.reduceAdd, Int.reduceSub, Int.reduceBEq, Int.reduceLT, Int.reduceLE, decide_true, decide_false, beq_self_eq_true, cast_0, cast_1, cast_2, cast_3, cast_4, cast_5, isi_str, isi_tup, addD_i, addI_i, subD_i, leD_i, leD_s, ltD_i, ltD_s, gtD_i, geD_i, eqD_i, neD_i, eqD_b, neD_b, eqD_s, lenD_l, lenD_t, absD_i, intD_i, tupD_l, tupD_t, lstD_l, lstD_t, mkT_0, mkT_1, mkT_2, mkT_3, mkL_0, mkL_1, sized_0, sized_1, ix_0, ix_1, ix_2, isT_t, isT_s, isT_l, isT_i, isT_n, isS_s, isS_t, isS_l, isS_i, isS_n, neD_s, Kd.inj, Mk.inj, Lk.inj, s_km, s_mk, List.length_append, L_c, L_i, L_n, L_a, L_cc, L_ic, L_ii, L_nc, L_ni, L_nn, L_ac, L_ai, L_an, L_aa, dPr_row])
  have lp : ((K ++ [("z" : Str)]).flatMap fun k => (subs M).map fun r => dPr (k, r)) = (prs K M).map dPr := by
    unfold prs
    rw [map_flat]
    congr 1
    funext k
    rw [List.map_map]
    rfl
  rw [lp] at lc
  have lq : mLc2 [6, 7] [7] (mMap (mMap2 (mVar 2) (mMap (mCons (mVar 4) mNil) mkL) addD) items) (tName 6) (mMap (mCall 1 F_subsets (mCons (mVar 3) mNil)) items) (tName 7) e_letters_2 [.dat (tssD a), .dat (tssD b), .dat (.list (K.map .str)), .dat (.list (M.map .str)), .dat (.str "z"), .un, .un, .un] = .ok ((prs K M).map dPr) [.dat (tssD a), .dat (tssD b), .dat (.list (K.map .str)), .dat (.list (M.map .str)), .dat (.str "z"), .un, .un, .un] :=
    mLc2_ok (s1 := [.dat (tssD a), .dat (tssD b), .dat (.list (K.map .str)), .dat (.list (M.map .str)), .dat (.str "z"), .un, .un, .un]) (ds := (K ++ [("z" : Str)]).map .str) (by simp only [mVar, mC, mMap, mMap2, lift_some, lift_none, bind_ok, bind_err, bind_bad, mCons, mNil, mT, asB_bool, asB, mAnd, mOr, mNot, andV_eq, orV_eq, mNotV, mIf, chain_eq, chK_b, mCall, sSeq, sNext, sIf, sRet, sRetN, sDrop, sAsg, sRaise, sFor, sApp, sOwn, setO, ownAt, mOwn1, mPop0, sFrz, frz, sAug, ex_ok, ex_err, ex_bad, then_nx, then_ret, then_brk, then_ct, then_err, optG_some, optG_none, tName, setD, tTupG, tsCons, tsNil, Option.bind_some, List.getElem?_cons_zero, List.getElem?_cons_succ, List.set_cons_zero, List.set_cons_succ, List.length_cons, List.length_nil, Bool.not_true, Bool.not_false, Bool.false_eq_true, if_true, if_false, reduceIte, List.map_cons, List.map_nil, List.cons_append, List.nil_append, List.replicate, Nat.reduceSub, Nat.reduceAdd, Nat.reduceEqDiff, Option.map_some, Option.map_none, outs, Int.reduceAdd, Int.reduceSub, Int.reduceBEq, Int.reduceLT, Int.reduceLE, decide_true, decide_false, beq_self_eq_true, cast_0, cast_1, cast_2, cast_3, cast_4, cast_5, isi_str, isi_tup, addD_i, addI_i, subD_i, leD_i, leD_s, ltD_i, ltD_s, gtD_i, geD_i, eqD_i, neD_i, eqD_b, neD_b, eqD_s, lenD_l, lenD_t, absD_i, intD_i, tupD_l, tupD_t, lstD_l, lstD_t, mkT_0, mkT_1, mkT_2, mkT_3, mkL_0, mkL_1, sized_0, sized_1, ix_0, ix_1, ix_2, isT_t, isT_s, isT_l, isT_i, isT_n, isS_s, isS_t, isS_l, isS_i, isS_n, neD_s, Kd.inj, Mk.inj, Lk.inj, s_km, s_mk, List.length_append, L_c, L_i, L_n, L_a, L_cc, L_ic, L_ii, L_nc, L_ni, L_nn, L_ac, L_ai, L_an, L_aa, e1, items]) rfl lc (by rw [List.length_map]; exact small_line (by omega)) rfl
  refine run_of (st := [.dat (tssD a), .dat (tssD b), .un, .un, .un, .un, .un, .un]) ⟨[.dat (tssD a), .dat (tssD b), .dat (.list (K.map .str)), .dat (.list (M.map .str)), .dat (.str "z"), .dat (.list ((prs K M).map dPr)), .un, .un], ?_, rfl⟩
  unfold g_letters
  refine (seq_nx st1).trans ?_
  refine (seq_nx (s1 := [.dat (tssD a), .dat (tssD b), .dat (.list (K.map .str)), .dat (.list (M.map .str)), .un, .un, .un, .un]) ?_).trans ?_
  · simp only [mVar, mC, mMap, mMap2, lift_some, lift_none, bind_ok, bind_err, bind_bad, mCons, mNil, mT, asB_bool, asB, mAnd, mOr, mNot, andV_eq, orV_eq, mNotV, mIf, chain_eq, chK_b, mCall, sSeq, sNext, sIf, sRet, sRetN, sDrop, sAsg, sRaise, sFor, sApp, sOwn, setO, ownAt, mOwn1, mPop0, sFrz, frz, sAug, ex_ok, ex_err, ex_bad, then_nx, then_ret, then_brk, then_ct, then_err, optG_some, optG_none, tName, setD, tTupG, tsCons, tsNil, Option.bind_some, List.getElem?_cons_zero, List.getElem?_cons_succ, List.set_cons_zero, List.set_cons_succ, List.length_cons, List.length_nil, Bool.not_true, Bool.not_false, Bool.false_eq_true, if_true, if_false, reduceIte, List.map_cons, List.map_nil, List.cons_append, List.nil_append, List.replicate, Nat.reduceSub, Nat.reduceAdd, Nat.reduceEqDiff, Option.map_some, Option.map_none, outs, Int.reduceAdd, Int.reduceSub, Int.reduceBEq, Int.reduceLT, Int.reduceLE, decide_true, decide_false, beq_self_eq_true, cast_0, cast_1, cast_2, cast_3, cast_4, cast_5, isi_str, isi_tup, addD_i, addI_i, subD_i, leD_i, leD_s, ltD_i, ltD_s, gtD_i, geD_i, eqD_i, neD_i, eqD_b, neD_b, eqD_s, lenD_l, lenD_t, absD_i, intD_i, tupD_l, tupD_t, lstD_l, lstD_t, mkT_0, mkT_1, mkT_2, mkT_3, mkL_0, mkL_1, sized_0, sized_1, ix_0, ix_1, ix_2, isT_t, isT_s, isT_l, isT_i, isT_n, isS_s, isS_t, isS_l, isS_i, isS_n, neD_s, Kd.inj, Mk.inj, Lk.inj, s_km, s_mk, List.length_append, L_c, L_i, L_n, L_a, L_cc, L_ic, L_ii, L_nc, L_ni, L_nn, L_ac, L_ai, L_an, L_aa, List.length_map, hk', hm']
  refine (seq_nx (s1 := [.dat (tssD a), .dat (tssD b), .dat (.list (K.map .str)), .dat (.list (M.map .str)), .dat (.str "z"), .un, .un, .un]) rfl).trans ?_
  refine (seq_nx (s1 := [.dat (tssD a), .dat (tssD b), .dat (.list (K.map .str)), .dat (.list (M.map .str)), .dat (.str "z"), .un, .un, .un]) (while_stop ?_)).trans ?_
  · simp only [mVar, mC, mMap, mMap2, lift_some, lift_none, bind_ok, bind_err, bind_bad, mCons, mNil, mT, asB_bool, asB, mAnd, mOr, mNot, andV_eq, orV_eq, mNotV, mIf, chain_eq, chK_b, mCall, sSeq, sNext, sIf, sRet, sRetN, sDrop, sAsg, sRaise, sFor, sApp, sOwn, setO, ownAt, mOwn1, mPop0, sFrz, frz, sAug, ex_ok, ex_err, ex_bad, then_nx, then_ret, then_brk, then_ct, then_err, optG_some, optG_none, tName, setD, tTupG, tsCons, tsNil, Option.bind_some, List.getElem?_cons_zero, List.getElem?_cons_succ, List.set_cons_zero, List.set_cons_succ, List.length_cons, List.length_nil, Bool.not_true, Bool.not_false, Bool.false_eq_true, if_true, if_false, reduceIte, List.map_cons, List.map_nil, List.cons_append, List.nil_append, List.replicate, Nat.reduceSub, Nat.reduceAdd, Nat.reduceEqDiff, Option.map_some, Option.map_none, outs, Int.reduceAdd, Int.reduceSub, Int.reduceBEq, Int.reduceLT, Int.reduceLE, decide_true, decide_false, beq_self_eq_true, cast_0, cast_1, cast_2, cast_3, cast_4, cast_5, isi_str, isi_tup, addD_i, addI_i, subD_i, leD_i, leD_s, ltD_i, ltD_s, gtD_i, geD_i, eqD_i, neD_i, eqD_b, neD_b, eqD_s, lenD_l, lenD_t, absD_i, intD_i, tupD_l, tupD_t, lstD_l, lstD_t, mkT_0, mkT_1, mkT_2, mkT_3, mkL_0, mkL_1, sized_0, sized_1, ix_0, ix_1, ix_2, isT_t, isT_s, isT_l, isT_i, isT_n, isS_s, isS_t, isS_l, isS_i, isS_n, neD_s, Kd.inj, Mk.inj, Lk.inj, s_km, s_mk, List.length_append, L_c, L_i, L_n, L_a, L_cc, L_ic, L_ii, L_nc, L_ni, L_nn, L_ac, L_ai, L_an, L_aa, in_s, decide_eq_false hz]
  refine (seq_nx (s1 := [.dat (tssD a), .dat (tssD b), .dat (.list (K.map .str)), .dat (.list (M.map .str)), .dat (.str "z"), .dat (.list ((prs K M).map dPr)), .un, .un]) ?_).trans ?_
  · simp only [mVar, mC, mMap, mMap2, lift_some, lift_none, bind_ok, bind_err, bind_bad, mCons, mNil, mT, asB_bool, asB, mAnd, mOr, mNot, andV_eq, orV_eq, mNotV, mIf, chain_eq, chK_b, mCall, sSeq, sNext, sIf, sRet, sRetN, sDrop, sAsg, sRaise, sFor, sApp, sOwn, setO, ownAt, mOwn1, mPop0, sFrz, frz, sAug, ex_ok, ex_err, ex_bad, then_nx, then_ret, then_brk, then_ct, then_err, optG_some, optG_none, tName, setD, tTupG, tsCons, tsNil, Option.bind_some, List.getElem?_cons_zero, List.getElem?_cons_succ, List.set_cons_zero, List.set_cons_succ, List.length_cons, List.length_nil, Bool.not_true, Bool.not_false, Bool.false_eq_true, if_true, if_false, reduceIte, List.map_cons, List.map_nil, List.cons_append, List.nil_append, List.replicate, Nat.reduceSub, Nat.reduceAdd, Nat.reduceEqDiff, Option.map_some, Option.map_none, outs, Int.reduceAdd, Int.reduceSub, Int.reduceBEq, Int.reduceLT, Int.reduceLE, decide_true, decide_false, beq_self_eq_true, cast_0, cast_1, cast_2, cast_3, cast_4, cast_5, isi_str, isi_tup, addD_i, addI_i, subD_i, leD_i, leD_s, ltD_i, ltD_s, gtD_i, geD_i, eqD_i, neD_i, eqD_b, neD_b, eqD_s, lenD_l, lenD_t, absD_i, intD_i, tupD_l, tupD_t, lstD_l, lstD_t, mkT_0, mkT_1, mkT_2, mkT_3, mkL_0, mkL_1, sized_0, sized_1, ix_0, ix_1, ix_2, isT_t, isT_s, isT_l, isT_i, isT_n, isS_s, isS_t, isS_l, isS_i, isS_n, neD_s, Kd.inj, Mk.inj, Lk.inj, s_km, s_mk, List.length_append, L_c, L_i, L_n, L_a, L_cc, L_ic, L_ii, L_nc, L_ni, L_nn, L_ac, L_ai, L_an, L_aa, mL, lq]
  · simp only [mVar, mC, mMap, mMap2, lift_some, lift_none, bind_ok, bind_err, bind_bad, mCons, mNil, mT, asB_bool, asB, mAnd, mOr, mNot, andV_eq, orV_eq, mNotV, mIf, chain_eq, chK_b, mCall, sSeq, sNext, sIf, sRet, sRetN, sDrop, sAsg, sRaise, sFor, sApp, sOwn, setO, ownAt, mOwn1, mPop0, sFrz, frz, sAug, ex_ok, ex_err, ex_bad, then_nx, then_ret, then_brk, then_ct, then_err, optG_some, optG_none, tName, setD, tTupG, tsCons, tsNil, Option.bind_some, List.getElem?_cons_zero, List.getElem?_cons_succ, List.set_cons_zero, List.set_cons_succ, List.length_cons, List.length_nil, Bool.not_true, Bool.not_false, Bool.false_eq_true, if_true, if_false, reduceIte, List.map_cons, List.map_nil, List.cons_append, List.nil_append, List.replicate, Nat.reduceSub, Nat.reduceAdd, Nat.reduceEqDiff, Option.map_some, Option.map_none, outs, Int.reduceAdd, Int.reduceSub, Int.reduceBEq, Int.reduceLT, Int.reduceLE, decide_true, decide_false, beq_self_eq_true, cast_0, cast_1, cast_2, cast_3, cast_4, cast_5, isi_str, isi_tup, addD_i, addI_i, subD_i, leD_i, leD_s, ltD_i, ltD_s, gtD_i, geD_i, eqD_i, neD_i, eqD_b, neD_b, eqD_s, lenD_l, lenD_t, absD_i, intD_i, tupD_l, tupD_t, lstD_l, lstD_t, mkT_0, mkT_1, mkT_2, mkT_3, mkL_0, mkL_1, sized_0, sized_1, ix_0, ix_1, ix_2, isT_t, isT_s, isT_l, isT_i, isT_n, isS_s, isS_t, isS_l, isS_i, isS_n, neD_s, Kd.inj, Mk.inj, Lk.inj, s_km, s_mk, List.length_append, L_c, L_i, L_n, L_a, L_cc, L_ic, L_ii, L_nc, L_ni, L_nn, L_ac, L_ai, L_an, L_aa, mL, sortP_map pb.2 (by omega)]
    rfl
theorem letters_err (h : Bd1 a b) (hk : 5 < (skn (a ++ b)).length ∨ 4 < (smn (a ++ b)).length) : F_letters [.dat (tssD a), .dat (tssD b)] = .err "TooMany" [.dat (tssD a), .dat (tssD b)] := by
  have st1 := letters_st1 h
  generalize skn (a ++ b) = K at *
  generalize smn (a ++ b) = M at *
  refine run_erof (st := [.dat (tssD a), .dat (tssD b), .un, .un, .un, .un, .un, .un]) ⟨[.dat (tssD a), .dat (tssD b), .dat (.list (K.map .str)), .dat (.list (M.map .str)), .un, .un, .un, .un], ?_, rfl⟩
  unfold g_letters
  refine (seq_nx st1).trans ?_
  have e2 : (sIf (mOr (mT (mMap2 (mMap (mCons (mVar 2) mNil) lenD) (mC (.int 5)) gtD)) (mT (mMap2 (mMap (mCons (mVar 3) mNil) lenD) (mC (.int 4)) gtD))) (sRaise "TooMany") sNext) [.dat (tssD a), .dat (tssD b), .dat (.list (K.map .str)), .dat (.list (M.map .str)), .un, .un, .un, .un] = .err "TooMany" [.dat (tssD a), .dat (tssD b), .dat (.list (K.map .str)), .dat (.list (M.map .str)), .un, .un, .un, .un] := by
    by_cases h5 : 5 < K.length
    · have hk' : ((5 : Int) < (K.length : Int)) := by omega
      simp only [mVar, mC, mMap, mMap2, lift_some, lift_none, bind_ok, bind_err, bind_bad, mCons, mNil, mT, asB_bool, asB, mAnd, mOr, mNot, andV_eq, orV_eq, mNotV, mIf, chain_eq, chK_b, mCall, sSeq, sNext, sIf, sRet, sRetN, sDrop, sAsg, sRaise, sFor, sApp, sOwn, setO, ownAt, mOwn1, mPop0, sFrz, frz, sAug, ex_ok, ex_err, ex_bad, then_nx, then_ret, then_brk, then_ct, then_err, optG_some, optG_none, tName, setD, tTupG, tsCons, tsNil, Option.bind_some, List.getElem?_cons_zero, List.getElem?_cons_succ, List.set_cons_zero, List.set_cons_succ, List.length_cons, List.length_nil, Bool.not_true, Bool.not_false, Bool.false_eq_true, if_true, if_false, reduceIte, List.map_cons, List.map_nil, List.cons_append, List.nil_append, List.replicate, Nat.reduceSub, Nat.reduceAdd, Nat.reduceEqDiff, Option.map_some, Option.map_none, outs, Int.reduceAdd, Int.reduceSub, Int.reduceBEq, Int.reduceLT, Int.reduceLE, decide_true, decide_false, beq_self_eq_true, cast_0, cast_1, cast_2, cast_3, cast_4, cast_5, isi_str, isi_tup, addD_i, addI_i, subD_i, leD_i, leD_s, ltD_i, ltD_s, gtD_i, geD_i, eqD_i, neD_i, eqD_b, neD_b, eqD_s, lenD_l, lenD_t, absD_i, intD_i, tupD_l, tupD_t, lstD_l, lstD_t, mkT_0, mkT_1, mkT_2, mkT_3, mkL_0, mkL_1, sized_0, sized_1, ix_0, ix_1, ix_2, isT_t, isT_s, isT_l, isT_i, isT_n, isS_s, isS_t, isS_l, isS_i, isS_n, neD_s, Kd.inj, Mk.inj, Lk.inj, s_km, s_mk, List.length_append, L_c, L_i, L_n, L_a, L_cc, L_ic, L_ii, L_nc, L_ni, L_nn, L_ac, L_ai, L_an, L_aa, List.length_map, hk']
    · have hk' : ¬ ((5 : Int) < (K.length : Int)) := by omega
      have hm' : ((4 : Int) < (M.length : Int)) := by omega
      simp only [mVar, mC, mMap, mMap2, lift_some, lift_none, bind_ok, bind_err, bind_bad, mCons, mNil, mT, asB_bool, asB, mAnd, mOr, mNot, andV_eq, orV_eq, mNotV, mIf, chain_eq, chK_b, mCall, sSeq, sNext, sIf, sRet, sRetN, sDrop, sAsg, sRaise, sFor, sApp, sOwn, setO, ownAt, mOwn1, mPop0, sFrz, frz, sAug, ex_ok, ex_err, ex_bad, then_nx, then_ret, then_brk, then_ct, then_err, optG_some, optG_none, tName, setD, tTupG, tsCons, tsNil, Option.bind_some, List.getElem?_cons_zero, List.getElem?_cons_succ, List.set_cons_zero, List.set_cons_succ, List.length_cons, List.length_nil, Bool.not_true, Bool.not_false, Bool.false_eq_true, if_true, if_false, reduceIte, List.map_cons, List.map_nil, List.cons_append, List.nil_append, List.replicate, Nat.reduceSub, Nat.reduceAdd, Nat.reduceEqDiff, Option.map_some, Option.map_none, outs, Int.reduceAdd, Int.reduceSub, Int.reduceBEq, Int.reduceLT, Int.reduceLE, decide_true, decide_false, beq_self_eq_true, cast_0, cast_1, cast_2, cast_3, cast_4, cast_5, isi_str, isi_tup, addD_i, addI_i, subD_i, leD_i, leD_s, ltD_i, ltD_s, gtD_i, geD_i, eqD_i, neD_i, eqD_b, neD_b, eqD_s, lenD_l, lenD_t, absD_i, intD_i, tupD_l, tupD_t, lstD_l, lstD_t, mkT_0, mkT_1, mkT_2, mkT_3, mkL_0, mkL_1, sized_0, sized_1, ix_0, ix_1, ix_2, isT_t, isT_s, isT_l, isT_i, isT_n, isS_s, isS_t, isS_l, isS_i, isS_n, neD_s, Kd.inj, Mk.inj, Lk.inj, s_km, s_mk, List.length_append, L_c, L_i, L_n, L_a, L_cc, L_ic, L_ii, L_nc, L_ni, L_nn, L_ac, L_ai, L_an, L_aa, List.length_map, hk', hm']
  unfold sSeq
  rw [e2]
  rfl
end
/-! ### the law's letters -/
section
variable {S A B : D}
theorem ll_rows {x : Str} {R : List (List Str)} {z5 z6 z7 z8 z9 : Sl} (h5 : NO z5) (hr : ∀ r ∈ R, r.length ≤ 100) (hl : R.length ≤ 100) :
    b_law_letters_2 [.dat S, .dat A, .dat B, .dat (.list (R.map rowD)), .dat (.str x), z5, z6, z7, z8, z9] = .nx [.dat S, .dat A, .dat B, .dat (.list ((R ++ R.map (· ++ [x])).map rowD)), .dat (.str x), z5, z6, z7, z8, z9] := by
  have lc := lc_typed (vs := [5]) (t := tName 5) (elt := e_law_letters_1) (s := [.dat S, .dat A, .dat B, .dat (.list (R.map rowD)), .dat (.str x), .un, z6, z7, z8, z9]) rowD (fun r => rowD (r ++ [x])) (xs := R) (fun r h => by
    refine ⟨[.dat S, .dat A, .dat B, .dat (.list (R.map rowD)), .dat (.str x), .dat (rowD r), z6, z7, z8, z9], rfl, ?_, rfl⟩
    have e := row_step (r := r) (x := x) (hr r h)
    rw [mkT_1] at e
    have e : addD (rowD r) (.tuple [.str x]) = some (rowD (r ++ [x])) := e
    unfold e_law_letters_1
    simp only [mVar, mC, mMap, mMap2, lift_some, lift_none, bind_ok, bind_err, bind_bad, mCons, mNil, mT, asB_bool, asB, mAnd, mOr, mNot, andV_eq, orV_eq, mNotV, mIf, chain_eq, chK_b, mCall, sSeq, sNext, sIf, sRet, sRetN, sDrop, sAsg, sRaise, sFor, sApp, sOwn, setO, ownAt, mOwn1, mPop0, sFrz, frz, sAug, ex_ok, ex_err, ex_bad, then_nx, then_ret, then_brk, then_ct, then_err, optG_some, optG_none, tName, setD, tTupG, tsCons, tsNil, Option.bind_some, List.getElem?_cons_zero, List.getElem?_cons_succ, List.set_cons_zero, List.set_cons_succ, List.length_cons, List.length_nil, Bool.not_true, Bool.not_false, Bool.false_eq_true, if_true, if_false, reduceIte, List.map_cons, List.map_nil, List.cons_append, List.nil_append, List.replicate, Nat.reduceSub, Nat.reduceAdd, Nat.reduceEqDiff, Option.map_some, Option.map_none, outs, Int.reduceAdd, Int.reduceSub, Int.reduceBEq, Int.reduceLT, Int.reduceLE, decide_true, decide_false, beq_self_eq_true, cast_0, cast_1, cast_2, cast_3, cast_4, cast_5, isi_str, isi_tup, addD_i, addI_i, subD_i, leD_i, leD_s, ltD_i, ltD_s, gtD_i, geD_i, eqD_i, neD_i, eqD_b, neD_b, eqD_s, lenD_l, lenD_t, absD_i, intD_i, tupD_l, tupD_t, lstD_l, lstD_t, mkT_0, mkT_1, mkT_2, mkT_3, mkL_0, mkL_1, sized_0, sized_1, ix_0, ix_1, ix_2, isT_t, isT_s, isT_l, isT_i, isT_n, isS_s, isS_t, isS_l, isS_i, isS_n, neD_s, Kd.inj, Mk.inj, Lk.inj, s_km, s_mk, List.length_append, L_c, L_i, L_n, L_a, L_cc, L_ic, L_ii, L_nc, L_ni, L_nn, L_ac, L_ai, L_an, L_aa, e])
  have lq : mLc [5] (mMap (mVar 3) items) (tName 5) mYes e_law_letters_1 [.dat S, .dat A, .dat B, .dat (.list (R.map rowD)), .dat (.str x), z5, z6, z7, z8, z9] = .ok ((R.map (· ++ [x])).map rowD) [.dat S, .dat A, .dat B, .dat (.list (R.map rowD)), .dat (.str x), z5, z6, z7, z8, z9] := by
    refine mLc_ok (s1 := [.dat S, .dat A, .dat B, .dat (.list (R.map rowD)), .dat (.str x), z5, z6, z7, z8, z9]) (ds := R.map rowD) (by simp only [mVar, mC, mMap, mMap2, lift_some, lift_none, bind_ok, bind_err, bind_bad, mCons, mNil, mT, asB_bool, asB, mAnd, mOr, mNot, andV_eq, orV_eq, mNotV, mIf, chain_eq, chK_b, mCall, sSeq, sNext, sIf, sRet, sRetN, sDrop, sAsg, sRaise, sFor, sApp, sOwn, setO, ownAt, mOwn1, mPop0, sFrz, frz, sAug, ex_ok, ex_err, ex_bad, then_nx, then_ret, then_brk, then_ct, then_err, optG_some, optG_none, tName, setD, tTupG, tsCons, tsNil, Option.bind_some, List.getElem?_cons_zero, List.getElem?_cons_succ, List.set_cons_zero, List.set_cons_succ, List.length_cons, List.length_nil, Bool.not_true, Bool.not_false, Bool.false_eq_true, if_true, if_false, reduceIte, List.map_cons, List.map_nil, List.cons_append, List.nil_append, List.replicate, Nat.reduceSub, Nat.reduceAdd, Nat.reduceEqDiff, Option.map_some, Option.map_none, outs, Int.reduceAdd, Int.reduceSub, Int.reduceBEq, Int.reduceLT, Int.reduceLE, decide_true, decide_false, beq_self_eq_true, cast_0, cast_1, cast_2, cast_3, cast_4, cast_5, isi_str, isi_tup, addD_i, addI_i, subD_i, leD_i, leD_s, ltD_i, ltD_s, gtD_i, geD_i, eqD_i, neD_i, eqD_b, neD_b, eqD_s, lenD_l, lenD_t, absD_i, intD_i, tupD_l, tupD_t, lstD_l, lstD_t, mkT_0, mkT_1, mkT_2, mkT_3, mkL_0, mkL_1, sized_0, sized_1, ix_0, ix_1, ix_2, isT_t, isT_s, isT_l, isT_i, isT_n, isS_s, isS_t, isS_l, isS_i, isS_n, neD_s, Kd.inj, Mk.inj, Lk.inj, s_km, s_mk, List.length_append, L_c, L_i, L_n, L_a, L_cc, L_ic, L_ii, L_nc, L_ni, L_nn, L_ac, L_ai, L_an, L_aa, items]) ?_ (s2 := [.dat S, .dat A, .dat B, .dat (.list (R.map rowD)), .dat (.str x), .un, z6, z7, z8, z9]) ?_ ?_ rfl
    · cases z5 <;> first | rfl | exact h5.elim
    · rw [List.map_map]; exact lc
    · rw [List.length_map, List.length_map]; exact small_line (by omega)
  unfold b_law_letters_2
  simp only [mVar, mC, mMap, mMap2, lift_some, lift_none, bind_ok, bind_err, bind_bad, mCons, mNil, mT, asB_bool, asB, mAnd, mOr, mNot, andV_eq, orV_eq, mNotV, mIf, chain_eq, chK_b, mCall, sSeq, sNext, sIf, sRet, sRetN, sDrop, sAsg, sRaise, sFor, sApp, sOwn, setO, ownAt, mOwn1, mPop0, sFrz, frz, sAug, ex_ok, ex_err, ex_bad, then_nx, then_ret, then_brk, then_ct, then_err, optG_some, optG_none, tName, setD, tTupG, tsCons, tsNil, Option.bind_some, List.getElem?_cons_zero, List.getElem?_cons_succ, List.set_cons_zero, List.set_cons_succ, List.length_cons, List.length_nil, Bool.not_true, Bool.not_false, Bool.false_eq_true, if_true, if_false, reduceIte, List.map_cons, List.map_nil, List.cons_append, List.nil_append, List.replicate, Nat.reduceSub, Nat.reduceAdd, Nat.reduceEqDiff, Option.map_some, Option.map_none, outs, Int.reduceAdd, Int.reduceSub, Int.reduceBEq, Int.reduceLT, Int.reduceLE, decide_true, decide_false, beq_self_eq_true, cast_0, cast_1, cast_2, cast_3, cast_4, cast_5, isi_str, isi_tup, addD_i, addI_i, subD_i, leD_i, leD_s, ltD_i, ltD_s, gtD_i, geD_i, eqD_i, neD_i, eqD_b, neD_b, eqD_s, lenD_l, lenD_t, absD_i, intD_i, tupD_l, tupD_t, lstD_l, lstD_t, mkT_0, mkT_1, mkT_2, mkT_3, mkL_0, mkL_1, sized_0, sized_1, ix_0, ix_1, ix_2, isT_t, isT_s, isT_l, isT_i, isT_n, isS_s, isS_t, isS_l, isS_i, isS_n, neD_s, Kd.inj, Mk.inj, Lk.inj, s_km, s_mk, List.length_append, L_c, L_i, L_n, L_a, L_cc, L_ic, L_ii, L_nc, L_ni, L_nn, L_ac, L_ai, L_an, L_aa, mL, lq, add_rows (R := R) (Q := R.map (· ++ [x])) (by rw [List.length_map]; omega)]
theorem add_prs {R Q : List Pr} (h : R.length + Q.length ≤ 10000) : addD (.list (R.map dPr)) (.list (Q.map dPr)) = some (.list ((R ++ Q).map dPr)) := by
  rw [addL_sm (by rw [List.length_map, List.length_map]; omega), List.map_append]
theorem ll_pairs {k : Str} {R : List (List Str)} {Q : List Pr} {z4 z5 z6 z7 : Sl} (h5 : NO z5) (hl : Q.length + R.length ≤ 10000) :
    b_law_letters_5 [.dat S, .dat A, .dat B, .dat (.list (R.map rowD)), z4, z5, z6, z7, .dat (.list (Q.map dPr)), .dat (.str k)] = .nx [.dat S, .dat A, .dat B, .dat (.list (R.map rowD)), z4, z5, z6, z7, .dat (.list ((Q ++ R.map fun r => (k, r)).map dPr)), .dat (.str k)] := by
  have lc := lc_typed (vs := [5]) (t := tName 5) (elt := e_law_letters_4) (s := [.dat S, .dat A, .dat B, .dat (.list (R.map rowD)), z4, .un, z6, z7, .dat (.list (Q.map dPr)), .dat (.str k)]) rowD (fun r => dPr (k, r)) (xs := R) (fun r h => by
    refine ⟨[.dat S, .dat A, .dat B, .dat (.list (R.map rowD)), z4, .dat (rowD r), z6, z7, .dat (.list (Q.map dPr)), .dat (.str k)], rfl, ?_, rfl⟩
    unfold e_law_letters_4
    simp only [mVar, mC, mMap, mMap2, lift_some, lift_none, bind_ok, bind_err, bind_bad, mCons, mNil, mT, asB_bool, asB, mAnd, mOr, mNot, andV_eq, orV_eq, mNotV, mIf, chain_eq, chK_b, mCall, sSeq, sNext, sIf, sRet, sRetN, sDrop, sAsg, sRaise, sFor, sApp, sOwn, setO, ownAt, mOwn1, mPop0, sFrz, frz, sAug, ex_ok, ex_err, ex_bad, then_nx, then_ret, then_brk, then_ct, then_err, optG_some, optG_none, tName, setD, tTupG, tsCons, tsNil, Option.bind_some, List.getElem?_cons_zero, List.getElem?_cons_succ, List.set_cons_zero, List.set_cons_succ, List.length_cons, List.length_nil, Bool.not_true, Bool.not_false, Bool.false_eq_true, if_true, if_false, reduceIte, List.map_cons, List.map_nil, List.cons_append, List.nil_append, List.replicate, Nat.reduceSub, Nat.reduceAdd, Nat.reduceEqDiff, Option.map_some, Option.map_none, outs, Int.reduceAdd, Int.reduceSub, Int.reduceBEq, Int.reduceLT, Int.reduceLE, decide_true, decide_false, beq_self_eq_true, cast_0, cast_1, cast_2, cast_3, cast_4, cast_5, isi_str, isi_tup, addD_i, addI_i, subD_i, leD_i, leD_s, ltD_i, ltD_s, gtD_i, geD_i, eqD_i, neD_i, eqD_b, neD_b, eqD_s, lenD_l, lenD_t, absD_i, intD_i, tupD_l, tupD_t, lstD_l, lstD_t, mkT_0, mkT_1, mkT_2, mkT_3, mkL_0, mkL_1, sized_0, sized_1, ix_0, ix_1, ix_2, isT_t, isT_s, isT_l, isT_i, isT_n, isS_s, isS_t, isS_l, isS_i, isS_n, neD_s, Kd.inj, Mk.inj, Lk.inj, s_km, s_mk, List.length_append, L_c, L_i, L_n, L_a, L_cc, L_ic, L_ii, L_nc, L_ni, L_nn, L_ac, L_ai, L_an, L_aa, dPr_row])
  have lq : mLc [5] (mMap (mVar 3) items) (tName 5) mYes e_law_letters_4 [.dat S, .dat A, .dat B, .dat (.list (R.map rowD)), z4, z5, z6, z7, .dat (.list (Q.map dPr)), .dat (.str k)] = .ok ((R.map fun r => (k, r)).map dPr) [.dat S, .dat A, .dat B, .dat (.list (R.map rowD)), z4, z5, z6, z7, .dat (.list (Q.map dPr)), .dat (.str k)] := by
    refine mLc_ok (s1 := [.dat S, .dat A, .dat B, .dat (.list (R.map rowD)), z4, z5, z6, z7, .dat (.list (Q.map dPr)), .dat (.str k)]) (ds := R.map rowD) (by simp only [mVar, mC, mMap, mMap2, lift_some, lift_none, bind_ok, bind_err, bind_bad, mCons, mNil, mT, asB_bool, asB, mAnd, mOr, mNot, andV_eq, orV_eq, mNotV, mIf, chain_eq, chK_b, mCall, sSeq, sNext, sIf, sRet, sRetN, sDrop, sAsg, sRaise, sFor, sApp, sOwn, setO, ownAt, mOwn1, mPop0, sFrz, frz, sAug, ex_ok, ex_err, ex_bad, then_nx, then_ret, then_brk, then_ct, then_err, optG_some, optG_none, tName, setD, tTupG, tsCons, tsNil, Option.bind_some, List.getElem?_cons_zero, List.getElem?_cons_succ, List.set_cons_zero, List.set_cons_succ, List.length_cons, List.length_nil, Bool.not_true, Bool.not_false, Bool.false_eq_true, if_true, if_false, reduceIte, List.map_cons, List.map_nil, List.cons_append, List.nil_append, List.replicate, Nat.reduceSub, Nat.reduceAdd, Nat.reduceEqDiff, Option.map_some, Option.map_none, outs, Int.reduceAdd, Int.reduceSub, Int.reduceBEq, Int.reduceLT, Int.reduceLE, decide_true, decide_false, beq_self_eq_true, cast_0, cast_1, cast_2, cast_3, cast_4, cast_5, isi_str, isi_tup, addD_i, addI_i, subD_i, leD_i, leD_s, ltD_i, ltD_s, gtD_i, geD_i, eqD_i, neD_i, eqD_b, neD_b, eqD_s, lenD_l, lenD_t, absD_i, intD_i, tupD_l, tupD_t, lstD_l, lstD_t, mkT_0, mkT_1, mkT_2, mkT_3, mkL_0, mkL_1, sized_0, sized_1, ix_0, ix_1, ix_2, isT_t, isT_s, isT_l, isT_i, isT_n, isS_s, isS_t, isS_l, isS_i, isS_n, neD_s, Kd.inj, Mk.inj, Lk.inj, s_km, s_mk, List.length_append, L_c, L_i, L_n, L_a, L_cc, L_ic, L_ii, L_nc, L_ni, L_nn, L_ac, L_ai, L_an, L_aa, items]) ?_ (s2 := [.dat S, .dat A, .dat B, .dat (.list (R.map rowD)), z4, .un, z6, z7, .dat (.list (Q.map dPr)), .dat (.str k)]) ?_ ?_ rfl
    · cases z5 <;> first | rfl | exact h5.elim
    · rw [List.map_map]; exact lc
    · rw [List.length_map, List.length_map]; exact small_line (by omega)
  unfold b_law_letters_5
  simp only [mVar, mC, mMap, mMap2, lift_some, lift_none, bind_ok, bind_err, bind_bad, mCons, mNil, mT, asB_bool, asB, mAnd, mOr, mNot, andV_eq, orV_eq, mNotV, mIf, chain_eq, chK_b, mCall, sSeq, sNext, sIf, sRet, sRetN, sDrop, sAsg, sRaise, sFor, sApp, sOwn, setO, ownAt, mOwn1, mPop0, sFrz, frz, sAug, ex_ok, ex_err, ex_bad, then_nx, then_ret, then_brk, then_ct, then_err, optG_some, optG_none, tName, setD, tTupG, tsCons, tsNil, Option.bind_some, List.getElem?_cons_zero, List.getElem?_cons_succ, List.set_cons_zero, List.set_cons_succ, List.length_cons, List.length_nil, Bool.not_true, Bool.not_false, Bool.false_eq_true, if_true, if_false, reduceIte, List.map_cons, List.map_nil, List.cons_append, List.nil_append, List.replicate, Nat.reduceSub, Nat.reduceAdd, Nat.reduceEqDiff, Option.map_some, Option.map_none, outs, Int.reduceAdd, Int.reduceSub, Int.reduceBEq, Int.reduceLT, Int.reduceLE, decide_true, decide_false, beq_self_eq_true, cast_0, cast_1, cast_2, cast_3, cast_4, cast_5, isi_str, isi_tup, addD_i, addI_i, subD_i, leD_i, leD_s, ltD_i, ltD_s, gtD_i, geD_i, eqD_i, neD_i, eqD_b, neD_b, eqD_s, lenD_l, lenD_t, absD_i, intD_i, tupD_l, tupD_t, lstD_l, lstD_t, mkT_0, mkT_1, mkT_2, mkT_3, mkL_0, mkL_1, sized_0, sized_1, ix_0, ix_1, ix_2, isT_t, isT_s, isT_l, isT_i, isT_n, isS_s, isS_t, isS_l, isS_i, isS_n, neD_s, Kd.inj, Mk.inj, Lk.inj, s_km, s_mk, List.length_append, L_c, L_i, L_n, L_a, L_cc, L_ic, L_ii, L_nc, L_ni, L_nn, L_ac, L_ai, L_an, L_aa, mL, lq, add_prs (R := Q) (Q := R.map fun r => (k, r)) (by rw [List.length_map]; omega)]
end
theorem law_letters_eq {a : List TS} (hk1 : (kAll a).length ≤ 1000) (hm1 : (mAll a).length ≤ 1000) (hp : ∀ p ∈ parts a, p.n.length ≤ 100 ∧ p.m.length ≤ 100) (hk : (skn a).length ≤ 5) (hm : (smn a).length ≤ 4) (hz : ("z" : Str) ∉ skn a) :
    F_law_letters [.dat (tssD a)] = .ok (.list ((LT (skn a) (smn a)).map dPr)) [.dat (tssD a)] := by
  have u1 : uAll false a = kAll a := by unfold uAll kAll; congr 1; funext p; exact uOf_k p
  have u2 : uAll true a = mAll a := by unfold uAll mAll; congr 1; funext p; exact uOf_m p
  have e1 := law_used_eq (a := a) (w := false) (by rw [u1]; exact hk1) hp
  have e2 := law_used_eq (a := a) (w := true) (by rw [u2]; exact hm1) hp
  rw [u1] at e1
  rw [u2] at e2
  have e1 : F_law_used [.dat (tssD a), .dat (.str "kind")] = .ok (.list ((skn a).map .str)) [.dat (tssD a), .dat (.str "kind")] := e1
  have e2 : F_law_used [.dat (tssD a), .dat (.str "mark")] = .ok (.list ((smn a).map .str)) [.dat (tssD a), .dat (.str "mark")] := e2
  generalize skn a = K at *
  generalize smn a = M at *
  have pb := prs_b hk hm
  have sbM := subs_b M
  have pw := pow_le5 (n := M.length) (by omega)
  obtain ⟨s', q1, z4, z5, k4, k5, rfl⟩ := for_pre (t := tName 4) (body := b_law_letters_2) PyData.str (fun pre st => ∃ z4 z5, NO z4 ∧ NO z5 ∧ st = [.dat (tssD a), .dat (.list (K.map .str)), .dat (.list (M.map .str)), .dat (.list ((subs pre).map rowD)), z4, z5, .un, .un, .un, .un]) M M []
      [.dat (tssD a), .dat (.list (K.map .str)), .dat (.list (M.map .str)), .dat (.list [.tuple []]), .un, .un, .un, .un, .un, .un] rfl ⟨.un, .un, trivial, trivial, rfl⟩ (fun pre x st hx => by
        rintro ⟨z4, z5, h4, h5, rfl⟩
        obtain ⟨post, e⟩ := hx
        have hp : pre.length ≤ 4 := by rw [← e, List.length_append, List.length_cons] at hm; omega
        have hb := subs_b pre
        have := pow_le5 (n := pre.length) (by omega)
        exact ⟨_, _, set_no h4 rfl, ll_rows (S := tssD a) (A := .list (K.map .str)) (B := .list (M.map .str)) (R := subs pre) (x := x) h5 (fun r hr => by have := hb.2 r hr; omega) (by omega), .dat (.str x), z5, trivial, h5, by rw [subs_snoc]⟩)
  obtain ⟨s', q2, z7, k7, rfl⟩ := for_pre (t := tName 7) (body := b_law_letters_3) nat (fun pre st => ∃ z7, NO z7 ∧ st = [.dat (tssD a), .dat (.list (K.map .str)), .dat (.list (M.map .str)), .dat (.list ((subs M).map rowD)), z4, z5, .dat (.str "z"), z7, .un, .un]) (List.range (K.length + 1)) (List.range (K.length + 1)) []
      [.dat (tssD a), .dat (.list (K.map .str)), .dat (.list (M.map .str)), .dat (.list ((subs M).map rowD)), z4, z5, .dat (.str "z"), .un, .un, .un] rfl ⟨.un, trivial, rfl⟩ (fun pre x st hx => by
        rintro ⟨z7, h7, rfl⟩
        refine ⟨_, _, set_no h7 rfl, (?_ : b_law_letters_3 [.dat (tssD a), .dat (.list (K.map .str)), .dat (.list (M.map .str)), .dat (.list ((subs M).map rowD)), z4, z5, .dat (.str "z"), .dat (nat x), .un, .un] = .nx _), .dat (nat x), trivial, rfl⟩
        unfold b_law_letters_3
        simp only [mVar, mC, mMap, mMap2, lift_some, lift_none, bind_ok, bind_err, bind_bad, mCons, mNil, mT, asB_bool, asB, mAnd, mOr, mNot, andV_eq, orV_eq, mNotV, mIf, chain_eq, chK_b, mCall, sSeq, sNext, sIf, sRet, sRetN, sDrop, sAsg, sRaise, sFor, sApp, sOwn, setO, ownAt, mOwn1, mPop0, sFrz, frz, sAug, ex_ok, ex_err, ex_bad, then_nx, then_ret, then_brk, then_ct, then_err, optG_some, optG_none, tName, setD, tTupG, tsCons, tsNil, Option.bind_some, List.getElem?_cons_zero, List.getElem?_cons_succ, List.set_cons_zero, List.set_cons_succ, List.length_cons, List.length_nil, Bool.not_true, Bool.not_false, Bool.false_eq_true, if_true, if_false, reduceIte, List.map_cons, List.map_nil, List.cons_append, List.nil_append, List.replicate, Nat.reduceSub, Nat.reduceAdd, Nat.reduceEqDiff, Option.map_some, Option.map_none, outs, Int.reduceAdd, Int.reduceSub, Int.reduceBEq, Int.reduceLT, Int.reduceLE, decide_true, decide_false, beq_self_eq_true, cast_0, cast_1, cast_2, cast_3, cast_4, cast_5, isi_str, isi_tup, addD_i, addI_i, subD_i, leD_i, leD_s, ltD_i, ltD_s, gtD_i, geD_i, eqD_i, neD_i, eqD_b, neD_b, eqD_s, lenD_l, lenD_t, absD_i, intD_i, tupD_l, tupD_t, lstD_l, lstD_t, mkT_0, mkT_1, mkT_2, mkT_3, mkL_0, mkL_1, sized_0, sized_1, ix_0, ix_1, ix_2, isT_t, isT_s, isT_l, isT_i, isT_n, isS_s, isS_t, isS_l, isS_i, isS_n, neD_s, Kd.inj, Mk.inj, Lk.inj, s_km, s_mk, List.length_append, L_c, L_i, L_n, L_a, L_cc, L_ic, L_ii, L_nc, L_ni, L_nn, L_ac, L_ai, L_an, L_aa, in_s, decide_eq_false hz])
  obtain ⟨s', q3, z9, y5, k9, j5, rfl⟩ := for_pre (t := tName 9) (body := b_law_letters_5) PyData.str (fun pre st => ∃ z9 y5, NO z9 ∧ NO y5 ∧ st = [.dat (tssD a), .dat (.list (K.map .str)), .dat (.list (M.map .str)), .dat (.list ((subs M).map rowD)), z4, y5, .dat (.str "z"), z7, .dat (.list ((pre.flatMap fun k => (subs M).map fun r => (k, r)).map dPr)), z9]) (K ++ [("z" : Str)]) (K ++ [("z" : Str)]) []
      [.dat (tssD a), .dat (.list (K.map .str)), .dat (.list (M.map .str)), .dat (.list ((subs M).map rowD)), z4, z5, .dat (.str "z"), z7, .dat (.list []), .un] rfl ⟨.un, z5, trivial, k5, rfl⟩ (fun pre x st hx => by
        rintro ⟨z9, y5, h9, h5, rfl⟩
        have l1 := pre_len (f := fun k => (subs M).map fun r => (k, r)) hx
        have l2 := pb.1
        rw [List.length_map] at l1
        exact ⟨_, _, set_no h9 rfl, ll_pairs (S := tssD a) (A := .list (K.map .str)) (B := .list (M.map .str)) (R := subs M) (k := x) h5 (by unfold prs at l2; omega), .dat (.str x), y5, trivial, h5, by rw [flat_snoc]⟩)
  have a1 : addD (.list (K.map .str)) (.list [.str "z"]) = some (.list ((K ++ [("z" : Str)]).map .str)) := by
    rw [addL_sm (by rw [List.length_map, List.length_singleton]; omega), List.map_append]
    rfl
  refine run_of (st := [.dat (tssD a), .un, .un, .un, .un, .un, .un, .un, .un, .un]) ⟨[.dat (tssD a), .dat (.list (K.map .str)), .dat (.list (M.map .str)), .dat (.list ((subs M).map rowD)), z4, y5, .dat (.str "z"), z7, .dat (.list ((prs K M).map dPr)), z9], ?_, rfl⟩
  unfold g_law_letters
  refine (seq_nx (s1 := [.dat (tssD a), .dat (.list (K.map .str)), .un, .un, .un, .un, .un, .un, .un, .un]) ?_).trans ?_
  · simp only [mVar, mC, mMap, mMap2, lift_some, lift_none, bind_ok, bind_err, bind_bad, mCons, mNil, mT, asB_bool, asB, mAnd, mOr, mNot, andV_eq, orV_eq, mNotV, mIf, chain_eq, chK_b, mCall, sSeq, sNext, sIf, sRet, sRetN, sDrop, sAsg, sRaise, sFor, sApp, sOwn, setO, ownAt, mOwn1, mPop0, sFrz, frz, sAug, ex_ok, ex_err, ex_bad, then_nx, then_ret, then_brk, then_ct, then_err, optG_some, optG_none, tName, setD, tTupG, tsCons, tsNil, Option.bind_some, List.getElem?_cons_zero, List.getElem?_cons_succ, List.set_cons_zero, List.set_cons_succ, List.length_cons, List.length_nil, Bool.not_true, Bool.not_false, Bool.false_eq_true, if_true, if_false, reduceIte, List.map_cons, List.map_nil, List.cons_append, List.nil_append, List.replicate, Nat.reduceSub, Nat.reduceAdd, Nat.reduceEqDiff, Option.map_some, Option.map_none, outs, Int.reduceAdd, Int.reduceSub, Int.reduceBEq, Int.reduceLT, Int.reduceLE, decide_true, decide_false, beq_self_eq_true, cast_0, cast_1, cast_2, cast_3, cast_4, cast_5, isi_str, isi_tup, addD_i, addI_i, subD_i, leD_i, leD_s, ltD_i, ltD_s, gtD_i, geD_i, eqD_i, neD_i, eqD_b, neD_b, eqD_s, lenD_l, lenD_t, absD_i, intD_i, tupD_l, tupD_t, lstD_l, lstD_t, mkT_0, mkT_1, mkT_2, mkT_3, mkL_0, mkL_1, sized_0, sized_1, ix_0, ix_1, ix_2, isT_t, isT_s, isT_l, isT_i, isT_n, isS_s, isS_t, isS_l, isS_i, isS_n, neD_s, Kd.inj, Mk.inj, Lk.inj, s_km, s_mk, List.length_append, L_c, L_i, L_n, L_a, L_cc, L_ic, L_ii, L_nc, L_ni, L_nn, L_ac, L_ai, L_an, L_aa, e1]
  refine (seq_nx (s1 := [.dat (tssD a), .dat (.list (K.map .str)), .dat (.list (M.map .str)), .un, .un, .un, .un, .un, .un, .un]) ?_).trans ?_
  · simp only [mVar, mC, mMap, mMap2, lift_some, lift_none, bind_ok, bind_err, bind_bad, mCons, mNil, mT, asB_bool, asB, mAnd, mOr, mNot, andV_eq, orV_eq, mNotV, mIf, chain_eq, chK_b, mCall, sSeq, sNext, sIf, sRet, sRetN, sDrop, sAsg, sRaise, sFor, sApp, sOwn, setO, ownAt, mOwn1, mPop0, sFrz, frz, sAug, ex_ok, ex_err, ex_bad, then_nx, then_ret, then_brk, then_ct, then_err, optG_some, optG_none, tName, setD, tTupG, tsCons, tsNil, Option.bind_some, List.getElem?_cons_zero, List.getElem?_cons_succ, List.set_cons_zero, List.set_cons_succ, List.length_cons, List.length_nil, Bool.not_true, Bool.not_false, Bool.false_eq_true, if_true, if_false, reduceIte, List.map_cons, List.map_nil, List.cons_append, List.nil_append, List.replicate, Nat.reduceSub, Nat.reduceAdd, Nat.reduceEqDiff, Option.map_some, Option.map_none, outs, Int.reduceAdd, Int.reduceSub, Int.reduceBEq, Int.reduceLT, Int.reduceLE, decide_true, decide_false, beq_self_eq_true, cast_0, cast_1, cast_2, cast_3, cast_4, cast_5, isi_str, isi_tup, addD_i, addI_i, subD_i, leD_i, leD_s, ltD_i, ltD_s, gtD_i, geD_i, eqD_i, neD_i, eqD_b, neD_b, eqD_s, lenD_l, lenD_t, absD_i, intD_i, tupD_l, tupD_t, lstD_l, lstD_t, mkT_0, mkT_1, mkT_2, mkT_3, mkL_0, mkL_1, sized_0, sized_1, ix_0, ix_1, ix_2, isT_t, isT_s, isT_l, isT_i, isT_n, isS_s, isS_t, isS_l, isS_i, isS_n, neD_s, Kd.inj, Mk.inj, Lk.inj, s_km, s_mk, List.length_append, L_c, L_i, L_n, L_a, L_cc, L_ic, L_ii, L_nc, L_ni, L_nn, L_ac, L_ai, L_an, L_aa, e2]
  refine (seq_nx (s1 := [.dat (tssD a), .dat (.list (K.map .str)), .dat (.list (M.map .str)), .dat (.list [.tuple []]), .un, .un, .un, .un, .un, .un]) ?_).trans ?_
  · simp only [mVar, mC, mMap, mMap2, lift_some, lift_none, bind_ok, bind_err, bind_bad, mCons, mNil, mT, asB_bool, asB, mAnd, mOr, mNot, andV_eq, orV_eq, mNotV, mIf, chain_eq, chK_b, mCall, sSeq, sNext, sIf, sRet, sRetN, sDrop, sAsg, sRaise, sFor, sApp, sOwn, setO, ownAt, mOwn1, mPop0, sFrz, frz, sAug, ex_ok, ex_err, ex_bad, then_nx, then_ret, then_brk, then_ct, then_err, optG_some, optG_none, tName, setD, tTupG, tsCons, tsNil, Option.bind_some, List.getElem?_cons_zero, List.getElem?_cons_succ, List.set_cons_zero, List.set_cons_succ, List.length_cons, List.length_nil, Bool.not_true, Bool.not_false, Bool.false_eq_true, if_true, if_false, reduceIte, List.map_cons, List.map_nil, List.cons_append, List.nil_append, List.replicate, Nat.reduceSub, Nat.reduceAdd, Nat.reduceEqDiff, Option.map_some, Option.map_none, outs, Int.reduceAdd, Int.reduceSub, Int.reduceBEq, Int.reduceLT, Int.reduceLE, decide_true, decide_false, beq_self_eq_true, cast_0, cast_1, cast_2, cast_3, cast_4, cast_5, isi_str, isi_tup, addD_i, addI_i, subD_i, leD_i, leD_s, ltD_i, ltD_s, gtD_i, geD_i, eqD_i, neD_i, eqD_b, neD_b, eqD_s, lenD_l, lenD_t, absD_i, intD_i, tupD_l, tupD_t, lstD_l, lstD_t, mkT_0, mkT_1, mkT_2, mkT_3, mkL_0, mkL_1, sized_0, sized_1, ix_0, ix_1, ix_2, isT_t, isT_s, isT_l, isT_i, isT_n, isS_s, isS_t, isS_l, isS_i, isS_n, neD_s, Kd.inj, Mk.inj, Lk.inj, s_km, s_mk, List.length_append, L_c, L_i, L_n, L_a, L_cc, L_ic, L_ii, L_nc, L_ni, L_nn, L_ac, L_ai, L_an, L_aa]
  refine (seq_nx (sfor_nx ?_ q1)).trans ?_
  · simp only [mVar, mC, mMap, mMap2, lift_some, lift_none, bind_ok, bind_err, bind_bad, mCons, mNil, mT, asB_bool, asB, mAnd, mOr, mNot, andV_eq, orV_eq, mNotV, mIf, chain_eq, chK_b, mCall, sSeq, sNext, sIf, sRet, sRetN, sDrop, sAsg, sRaise, sFor, sApp, sOwn, setO, ownAt, mOwn1, mPop0, sFrz, frz, sAug, ex_ok, ex_err, ex_bad, then_nx, then_ret, then_brk, then_ct, then_err, optG_some, optG_none, tName, setD, tTupG, tsCons, tsNil, Option.bind_some, List.getElem?_cons_zero, List.getElem?_cons_succ, List.set_cons_zero, List.set_cons_succ, List.length_cons, List.length_nil, Bool.not_true, Bool.not_false, Bool.false_eq_true, if_true, if_false, reduceIte, List.map_cons, List.map_nil, List.cons_append, List.nil_append, List.replicate, Nat.reduceSub, Nat.reduceAdd, Nat.reduceEqDiff, Option.map_some, Option.map_none, outs, Int.reduceAdd, Int.reduceSub, Int.reduceBEq, Int.reduceLT, Int.reduceLE, decide_true, decide_false, beq_self_eq_true, cast_0, cast_1, cast_2, cast_3, cast_4, cast_5, isi_str, isi_tup, addD_i, addI_i, subD_i, leD_i, leD_s, ltD_i, ltD_s, gtD_i, geD_i, eqD_i, neD_i, eqD_b, neD_b, eqD_s, lenD_l, lenD_t, absD_i, intD_i, tupD_l, tupD_t, lstD_l, lstD_t, mkT_0, mkT_1, mkT_2, mkT_3, mkL_0, mkL_1, sized_0, sized_1, ix_0, ix_1, ix_2, isT_t, isT_s, isT_l, isT_i, isT_n, isS_s, isS_t, isS_l, isS_i, isS_n, neD_s, Kd.inj, Mk.inj, Lk.inj, s_km, s_mk, List.length_append, L_c, L_i, L_n, L_a, L_cc, L_ic, L_ii, L_nc, L_ni, L_nn, L_ac, L_ai, L_an, L_aa, items]
  refine (seq_nx (s1 := [.dat (tssD a), .dat (.list (K.map .str)), .dat (.list (M.map .str)), .dat (.list ((subs M).map rowD)), z4, z5, .dat (.str "z"), .un, .un, .un]) rfl).trans ?_
  refine (seq_nx (sfor_nx ?_ q2)).trans ?_
  · simp only [mVar, mC, mMap, mMap2, lift_some, lift_none, bind_ok, bind_err, bind_bad, mCons, mNil, mT, asB_bool, asB, mAnd, mOr, mNot, andV_eq, orV_eq, mNotV, mIf, chain_eq, chK_b, mCall, sSeq, sNext, sIf, sRet, sRetN, sDrop, sAsg, sRaise, sFor, sApp, sOwn, setO, ownAt, mOwn1, mPop0, sFrz, frz, sAug, ex_ok, ex_err, ex_bad, then_nx, then_ret, then_brk, then_ct, then_err, optG_some, optG_none, tName, setD, tTupG, tsCons, tsNil, Option.bind_some, List.getElem?_cons_zero, List.getElem?_cons_succ, List.set_cons_zero, List.set_cons_succ, List.length_cons, List.length_nil, Bool.not_true, Bool.not_false, Bool.false_eq_true, if_true, if_false, reduceIte, List.map_cons, List.map_nil, List.cons_append, List.nil_append, List.replicate, Nat.reduceSub, Nat.reduceAdd, Nat.reduceEqDiff, Option.map_some, Option.map_none, outs, Int.reduceAdd, Int.reduceSub, Int.reduceBEq, Int.reduceLT, Int.reduceLE, decide_true, decide_false, beq_self_eq_true, cast_0, cast_1, cast_2, cast_3, cast_4, cast_5, isi_str, isi_tup, addD_i, addI_i, subD_i, leD_i, leD_s, ltD_i, ltD_s, gtD_i, geD_i, eqD_i, neD_i, eqD_b, neD_b, eqD_s, lenD_l, lenD_t, absD_i, intD_i, tupD_l, tupD_t, lstD_l, lstD_t, mkT_0, mkT_1, mkT_2, mkT_3, mkL_0, mkL_1, sized_0, sized_1, ix_0, ix_1, ix_2, isT_t, isT_s, isT_l, isT_i, isT_n, isS_s, isS_t, isS_l, isS_i, isS_n, neD_s, Kd.inj, Mk.inj, Lk.inj, s_km, s_mk, List.length_append, L_c, L_i, L_n, L_a, L_cc, L_ic, L_ii, L_nc, L_ni, L_nn, L_ac, L_ai, L_an, L_aa, List.length_map]
    rw [show ((K.length : Nat) : Int) + 1 = ((K.length + 1 : Nat) : Int) from rfl, rng_nat (by omega)]
    rfl
  refine (seq_nx (s1 := [.dat (tssD a), .dat (.list (K.map .str)), .dat (.list (M.map .str)), .dat (.list ((subs M).map rowD)), z4, z5, .dat (.str "z"), z7, .dat (.list []), .un]) ?_).trans ?_
  · simp only [mVar, mC, mMap, mMap2, lift_some, lift_none, bind_ok, bind_err, bind_bad, mCons, mNil, mT, asB_bool, asB, mAnd, mOr, mNot, andV_eq, orV_eq, mNotV, mIf, chain_eq, chK_b, mCall, sSeq, sNext, sIf, sRet, sRetN, sDrop, sAsg, sRaise, sFor, sApp, sOwn, setO, ownAt, mOwn1, mPop0, sFrz, frz, sAug, ex_ok, ex_err, ex_bad, then_nx, then_ret, then_brk, then_ct, then_err, optG_some, optG_none, tName, setD, tTupG, tsCons, tsNil, Option.bind_some, List.getElem?_cons_zero, List.getElem?_cons_succ, List.set_cons_zero, List.set_cons_succ, List.length_cons, List.length_nil, Bool.not_true, Bool.not_false, Bool.false_eq_true, if_true, if_false, reduceIte, List.map_cons, List.map_nil, List.cons_append, List.nil_append, List.replicate, Nat.reduceSub, Nat.reduceAdd, Nat.reduceEqDiff, Option.map_some, Option.map_none, outs, Int.reduceAdd, Int.reduceSub, Int.reduceBEq, Int.reduceLT, Int.reduceLE, decide_true, decide_false, beq_self_eq_true, cast_0, cast_1, cast_2, cast_3, cast_4, cast_5, isi_str, isi_tup, addD_i, addI_i, subD_i, leD_i, leD_s, ltD_i, ltD_s, gtD_i, geD_i, eqD_i, neD_i, eqD_b, neD_b, eqD_s, lenD_l, lenD_t, absD_i, intD_i, tupD_l, tupD_t, lstD_l, lstD_t, mkT_0, mkT_1, mkT_2, mkT_3, mkL_0, mkL_1, sized_0, sized_1, ix_0, ix_1, ix_2, isT_t, isT_s, isT_l, isT_i, isT_n, isS_s, isS_t, isS_l, isS_i, isS_n, neD_s, Kd.inj, Mk.inj, Lk.inj, s_km, s_mk, List.length_append, L_c, L_i, L_n, L_a, L_cc, L_ic, L_ii, L_nc, L_ni, L_nn, L_ac, L_ai, L_an, L_aa]
  refine (seq_nx (sfor_nx ?_ q3)).trans ?_
  · simp only [mVar, mC, mMap, mMap2, lift_some, lift_none, bind_ok, bind_err, bind_bad, mCons, mNil, mT, asB_bool, asB, mAnd, mOr, mNot, andV_eq, orV_eq, mNotV, mIf, chain_eq, chK_b, mCall, sSeq, sNext, sIf, sRet, sRetN, sDrop, sAsg, sRaise, sFor, sApp, sOwn, setO, ownAt, mOwn1, mPop0, sFrz, frz, sAug, ex_ok, ex_err, ex_bad, then_nx, then_ret, then_brk, then_ct, then_err, optG_some, optG_none, tName, setD, tTupG, tsCons, tsNil, Option.bind_some, List.getElem?_cons_zero, List.getElem?_cons_succ, List.set_cons_zero, List.set_cons_succ, List.length_cons, List.length_nil, Bool.not_true, Bool.not_false, Bool.false_eq_true, if_true, if_false, reduceIte, List.map_cons, List.map_nil, List.cons_append, List.nil_append, List.replicate, Nat.reduceSub, Nat.reduceAdd, Nat.reduceEqDiff, Option.map_some, Option.map_none, outs, Int.reduceAdd, Int.reduceSub, Int.reduceBEq, Int.reduceLT, Int.reduceLE, decide_true, decide_false, beq_self_eq_true, cast_0, cast_1, cast_2, cast_3, cast_4, cast_5, isi_str, isi_tup, addD_i, addI_i, subD_i, leD_i, leD_s, ltD_i, ltD_s, gtD_i, geD_i, eqD_i, neD_i, eqD_b, neD_b, eqD_s, lenD_l, lenD_t, absD_i, intD_i, tupD_l, tupD_t, lstD_l, lstD_t, mkT_0, mkT_1, mkT_2, mkT_3, mkL_0, mkL_1, sized_0, sized_1, ix_0, ix_1, ix_2, isT_t, isT_s, isT_l, isT_i, isT_n, isS_s, isS_t, isS_l, isS_i, isS_n, neD_s, Kd.inj, Mk.inj, Lk.inj, s_km, s_mk, List.length_append, L_c, L_i, L_n, L_a, L_cc, L_ic, L_ii, L_nc, L_ni, L_nn, L_ac, L_ai, L_an, L_aa, a1, items]
  · simp only [mVar, mC, mMap, mMap2, lift_some, lift_none, bind_ok, bind_err, bind_bad, mCons, mNil, mT, asB_bool, asB, mAnd, mOr, mNot, andV_eq, orV_eq, mNotV, mIf, chain_eq, chK_b, mCall, sSeq, sNext, sIf, sRet, sRetN, sDrop, sAsg, sRaise, sFor, sApp, sOwn, setO, ownAt, mOwn1, mPop0, sFrz, frz, sAug, ex_ok, ex_err, ex_bad, then_nx, then_ret, then_brk, then_ct, then_err, optG_some, optG_none, tName, setD, tTupG, tsCons, tsNil, Option.bind_some, List.getElem?_cons_zero, List.getElem?_cons_succ, List.set_cons_zero, List.set_cons_succ, List.length_cons, List.length_nil, Bool.not_true, Bool.not_false, Bool.false_eq_true, if_true, if_false, reduceIte, List.map_cons, List.map_nil, List.cons_append, List.nil_append, List.replicate, Nat.reduceSub, Nat.reduceAdd, Nat.reduceEqDiff, Option.map_some, Option.map_none, outs, Int.reduceAdd, Int.reduceSub, Int.reduceBEq, Int.reduceLT, Int.reduceLE, decide_true, decide_false, beq_self_eq_true, cast_0, cast_1, cast_2, cast_3, cast_4, cast_5, isi_str, isi_tup, addD_i, addI_i, subD_i, leD_i, leD_s, ltD_i, ltD_s, gtD_i, geD_i, eqD_i, neD_i, eqD_b, neD_b, eqD_s, lenD_l, lenD_t, absD_i, intD_i, tupD_l, tupD_t, lstD_l, lstD_t, mkT_0, mkT_1, mkT_2, mkT_3, mkL_0, mkL_1, sized_0, sized_1, ix_0, ix_1, ix_2, isT_t, isT_s, isT_l, isT_i, isT_n, isS_s, isS_t, isS_l, isS_i, isS_n, neD_s, Kd.inj, Mk.inj, Lk.inj, s_km, s_mk, List.length_append, L_c, L_i, L_n, L_a, L_cc, L_ic, L_ii, L_nc, L_ni, L_nn, L_ac, L_ai, L_an, L_aa, mL]
    rw [show ((K ++ [("z" : Str)]).flatMap fun k => (subs M).map fun r => (k, r)) = prs K M from rfl, sortP_map pb.2 (by omega)]
    rfl
end DL

namespace DL
open PySem PySem.Spec L2
/-! ### walks -/
theorem while_step {n : Nat} {t : M Bool} {b : G} {s s1 s2 : Sts} (h : t s = .ok true s1) (hb : b s1 = .nx s2) : sWhile (n + 1) t b s = sWhile n t b s2 := by
  show ex (t s) (fun k s1 => if k = true then (match b s1 with
      | .nx s2 => whileG t b n s2
      | .ct s2 => whileG t b n s2
      | .brk s2 => .nx s2
      | .ret v s2 => .ret v s2
      | .err x s2 => .err x s2
      | .bad => .bad) else .nx s1) = whileG t b n s2
  rw [h, ex_ok, if_pos rfl, hb]
theorem if_yes {t : M Bool} {g h : G} {s s1 : Sts} (e : t s = .ok true s1) : sIf t g h s = g s1 := by
  unfold sIf
  rw [e, ex_ok, if_pos rfl]
section
variable (mv : Nat → Bool) (lt : Nat → Pr)
def moveS (k : Nat) : Str := if k = 0 then "root" else if mv k = true then "down" else "right"
def stD (k : Nat) : D := .tuple [.str (moveS mv k), dPr (lt k)]
def wD (n : Nat) : D := .tuple ((List.range n).map (stD mv lt))
def nd (k : Nat) (c : List D) : D := .tuple [.str (lt k).1, rowD (lt k).2, .tuple c]
/-- the element of step k, f steps behind it, and the row from it on -/
def dr : Nat → Nat → D × List D
  | 0, k => (nd lt k [], [nd lt k []])
  | f + 1, k => if mv (k + 1) = true then (nd lt k (dr f (k + 1)).2, [nd lt k (dr f (k + 1)).2]) else (nd lt k [], nd lt k [] :: (dr f (k + 1)).2)
def plr : Nat → Nat → Nat → List Nat
  | 0, c, _ => [c]
  | f + 1, c, k => if mv (k + 1) = true then c :: plr f 0 (k + 1) else plr f (c + 1) (k + 1)
def pl : Nat → Nat → List Nat
  | 0, _ => []
  | f + 1, k => if mv (k + 1) = true then plr mv f 0 (k + 1) else []
/-- how many steps to the right follow -/
def rl : Nat → Nat → Nat
  | 0, _ => 0
  | f + 1, k => if mv (k + 1) = true then 0 else rl f (k + 1) + 1
theorem rl_le : ∀ f k, rl mv f k ≤ f
  | 0, _ => Nat.le_refl _
  | f + 1, k => by
    have := rl_le f (k + 1)
    unfold rl
    split <;> omega
theorem dr_row : ∀ f k, (dr mv lt f k).2 = (List.range (rl mv f k)).map (fun i => nd lt (k + i) []) ++ [(dr mv lt (f - rl mv f k) (k + rl mv f k)).1]
  | 0, k => rfl
  | f + 1, k => by
    cases h : mv (k + 1) with
    | true =>
      have e1 : rl mv (f + 1) k = 0 := by rw [rl, if_pos h]
      have e3 : dr mv lt (f + 1) k = (nd lt k (dr mv lt f (k + 1)).2, [nd lt k (dr mv lt f (k + 1)).2]) := by rw [dr, if_pos h]
      rw [e1, Nat.sub_zero, show k + 0 = k from rfl, e3]
      rfl
    | false =>
      have e1 : rl mv (f + 1) k = rl mv f (k + 1) + 1 := by rw [rl, if_neg (by rw [h]; decide)]
      have e2 : (dr mv lt (f + 1) k).2 = nd lt k [] :: (dr mv lt f (k + 1)).2 := by rw [dr, if_neg (by rw [h]; decide)]
      rw [e1, e2, dr_row f (k + 1), List.range_succ_eq_map, List.map_cons, List.map_map, Nat.add_sub_add_right, show k + (rl mv f (k + 1) + 1) = k + 1 + rl mv f (k + 1) by omega]
      show _ :: _ = _ :: _
      congr 2
      refine List.map_congr_left fun i _ => ?_
      show nd lt (k + 1 + i) [] = nd lt (k + (i + 1)) []
      rw [show k + 1 + i = k + (i + 1) by omega]
theorem plr_row : ∀ f c k, plr mv f c k = (c + rl mv f k) :: pl mv (f - rl mv f k) (k + rl mv f k)
  | 0, c, k => rfl
  | f + 1, c, k => by
    cases h : mv (k + 1) with
    | true =>
      have e1 : rl mv (f + 1) k = 0 := by rw [rl, if_pos h]
      rw [e1, plr, if_pos h, Nat.sub_zero, show k + 0 = k from rfl, show c + 0 = c from rfl, pl, if_pos h]
    | false =>
      have e1 : rl mv (f + 1) k = rl mv f (k + 1) + 1 := by rw [rl, if_neg (by rw [h]; decide)]
      have e2 : plr mv (f + 1) c k = plr mv f (c + 1) (k + 1) := by rw [plr, if_neg (by rw [h]; decide)]
      rw [e1, e2, plr_row f (c + 1) (k + 1), Nat.add_sub_add_right, show k + (rl mv f (k + 1) + 1) = k + 1 + rl mv f (k + 1) by omega, show c + 1 + rl mv f (k + 1) = c + (rl mv f (k + 1) + 1) by omega]
end
section
variable {mv : Nat → Bool} {lt : Nat → Pr} {n : Nat}
theorem w_ix {k : Nat} (h : k < n) : ixD (wD mv lt n) (nat k) = some (stD mv lt k) := ix_nat (by rw [List.getElem?_map, List.getElem?_range h]; rfl)
theorem w_len : lenD [wD mv lt n] = some (nat n) := by
  unfold wD
  rw [lenD_t, List.length_map, List.length_range]
theorem st_0 (k : Nat) : ixD (stD mv lt k) (.int 0) = some (.str (moveS mv k)) := ix_0 _ _
theorem st_1 (k : Nat) : ixD (stD mv lt k) (.int 1) = some (dPr (lt k)) := ix_1 _ _ _
theorem pr_0 (p : Pr) : ixD (dPr p) (.int 0) = some (.str p.1) := ix_0 _ _
theorem pr_1 (p : Pr) : ixD (dPr p) (.int 1) = some (rowD p.2) := ix_1 _ _ _
theorem mv_down (k : Nat) : (moveS mv (k + 1) == ("down" : Str)) = mv (k + 1) := by
  unfold moveS
  rw [if_neg (Nat.succ_ne_zero k)]
  cases mv (k + 1) <;> decide +kernel
theorem mv_right (k : Nat) : (moveS mv (k + 1) == ("right" : Str)) = !mv (k + 1) := by
  unfold moveS
  rw [if_neg (Nat.succ_ne_zero k)]
  cases mv (k + 1) <;> decide +kernel
theorem mv0_down : (moveS mv 0 == ("down" : Str)) = false := by unfold moveS; rw [if_pos rfl]; decide +kernel
theorem mv0_right : (moveS mv 0 == ("right" : Str)) = false := by unfold moveS; rw [if_pos rfl]; decide +kernel
theorem c_s (k : Nat) : ((k : Nat) : Int) + 1 = ((k + 1 : Nat) : Int) := rfl
abbrev gS (mv : Nat → Bool) (lt : Nat → Pr) (n k : Nat) (z : Sts) : Sts := .dat (wD mv lt n) :: .dat (nat k) :: .dat (.str (lt k).1) :: .dat (rowD (lt k).2) :: z
theorem gr_while {k s0 : Nat} {C : List D} {p5 : D} {z8 z9 z10 : Sl} : ∀ (f s m : Nat), s + 1 + f = n → f < m → n ≤ 100 →
    sWhile m (mAnd (mT (mMap2 (mVar 7) (mMap (mCons (mVar 0) mNil) lenD) ltD)) (mT (mMap2 (mMap2 (mMap2 (mVar 0) (mVar 7) ixD) (mC (.int 0)) ixD) (mC (.str "right")) eqD))) b_grown_1 (gS mv lt n k [.own C, .dat p5, .dat (nat s0), .dat (nat (s + 1)), z8, z9, z10]) = .nx (gS mv lt n k [.own C, .dat p5, .dat (nat s0), .dat (nat (s + 1 + rl mv f s)), z8, z9, z10])
  | 0, s, m + 1, hn, hm, _ => by
    have h1 : ¬ (((s + 1 : Nat) : Int) < ((n : Nat) : Int)) := by omega
    refine while_stop ?_
    simp only [mVar, mC, mMap, mMap2, lift_some, lift_none, bind_ok, bind_err, bind_bad, mCons, mNil, mT, asB_bool, asB, mAnd, mOr, mNot, andV_eq, orV_eq, mNotV, mIf, chain_eq, chK_b, mCall, sSeq, sNext, sIf, sRet, sRetN, sDrop, sAsg, sRaise, sFor, sApp, sOwn, setO, ownAt, mOwn1, mPop0, sFrz, frz, sAug, ex_ok, ex_err, ex_bad, then_nx, then_ret, then_brk, then_ct, then_err, optG_some, optG_none, tName, setD, tTupG, tsCons, tsNil, Option.bind_some, List.getElem?_cons_zero, List.getElem?_cons_succ, List.set_cons_zero, List.set_cons_succ, List.length_cons, List.length_nil, Bool.not_true, Bool.not_false, Bool.false_eq_true, if_true, if_false, reduceIte, List.map_cons, List.map_nil, List.cons_append, List.nil_append, List.replicate, Nat.reduceSub, Nat.reduceAdd, Nat.reduceEqDiff, Option.map_some, Option.map_none, outs, Int.reduceAdd, Int.reduceSub, Int.reduceBEq, Int.reduceLT, Int.reduceLE, decide_true, decide_false, beq_self_eq_true, cast_0, cast_1, cast_2, cast_3, cast_4, cast_5, isi_str, isi_tup, addD_i, addI_i, subD_i, leD_i, leD_s, ltD_i, ltD_s, gtD_i, geD_i, eqD_i, neD_i, eqD_b, neD_b, eqD_s, lenD_l, lenD_t, absD_i, intD_i, tupD_l, tupD_t, lstD_l, lstD_t, mkT_0, mkT_1, mkT_2, mkT_3, mkL_0, mkL_1, sized_0, sized_1, ix_0, ix_1, ix_2, isT_t, isT_s, isT_l, isT_i, isT_n, isS_s, isS_t, isS_l, isS_i, isS_n, neD_s, Kd.inj, Mk.inj, Lk.inj, s_km, s_mk, List.length_append, L_c, L_i, L_n, L_a, L_cc, L_ic, L_ii, L_nc, L_ni, L_nn, L_ac, L_ai, L_an, L_aa, w_len, h1]
    rfl
  | f + 1, s, m + 1, hn, hm, hN => by
    have h1 : ((s + 1 : Nat) : Int) < ((n : Nat) : Int) := by omega
    cases h : mv (s + 1) with
    | true =>
      have e1 : rl mv (f + 1) s = 0 := by rw [rl, if_pos h]
      rw [e1]
      refine while_stop ?_
      simp only [mVar, mC, mMap, mMap2, lift_some, lift_none, bind_ok, bind_err, bind_bad, mCons, mNil, mT, asB_bool, asB, mAnd, mOr, mNot, andV_eq, orV_eq, mNotV, mIf, chain_eq, chK_b, mCall, sSeq, sNext, sIf, sRet, sRetN, sDrop, sAsg, sRaise, sFor, sApp, sOwn, setO, ownAt, mOwn1, mPop0, sFrz, frz, sAug, ex_ok, ex_err, ex_bad, then_nx, then_ret, then_brk, then_ct, then_err, optG_some, optG_none, tName, setD, tTupG, tsCons, tsNil, Option.bind_some, List.getElem?_cons_zero, List.getElem?_cons_succ, List.set_cons_zero, List.set_cons_succ, List.length_cons, List.length_nil, Bool.not_true, Bool.not_false, Bool.false_eq_true, if_true, if_false, reduceIte, List.map_cons, List.map_nil, List.cons_append, List.nil_append, List.replicate, Nat.reduceSub, Nat.reduceAdd, Nat.reduceEqDiff, Option.map_some, Option.map_none, outs, Int.reduceAdd, Int.reduceSub, Int.reduceBEq, Int.reduceLT, Int.reduceLE, decide_true, decide_false, beq_self_eq_true, cast_0, cast_1, cast_2, cast_3, cast_4, cast_5, isi_str, isi_tup, addD_i, addI_i, subD_i, leD_i, leD_s, ltD_i, ltD_s, gtD_i, geD_i, eqD_i, neD_i, eqD_b, neD_b, eqD_s, lenD_l, lenD_t, absD_i, intD_i, tupD_l, tupD_t, lstD_l, lstD_t, mkT_0, mkT_1, mkT_2, mkT_3, mkL_0, mkL_1, sized_0, sized_1, ix_0, ix_1, ix_2, isT_t, isT_s, isT_l, isT_i, isT_n, isS_s, isS_t, isS_l, isS_i, isS_n, neD_s, Kd.inj, Mk.inj, Lk.inj, s_km, s_mk, List.length_append, L_c, L_i, L_n, L_a, L_cc, L_ic, L_ii, L_nc, L_ni, L_nn, L_ac, L_ai, L_an, L_aa, w_len, h1, w_ix (mv := mv) (lt := lt) (show s + 1 < n by omega), st_0, mv_right, h]
    | false =>
      have e1 : rl mv (f + 1) s = rl mv f (s + 1) + 1 := by rw [rl, if_neg (by rw [h]; decide)]
      have ih := gr_while (k := k) (s0 := s0) (C := C) (p5 := p5) (z8 := z8) (z9 := z9) (z10 := z10) f (s + 1) m (by omega) (by omega) hN
      have et : (mAnd (mT (mMap2 (mVar 7) (mMap (mCons (mVar 0) mNil) lenD) ltD)) (mT (mMap2 (mMap2 (mMap2 (mVar 0) (mVar 7) ixD) (mC (.int 0)) ixD) (mC (.str "right")) eqD))) (gS mv lt n k [.own C, .dat p5, .dat (nat s0), .dat (nat (s + 1)), z8, z9, z10]) = .ok true (gS mv lt n k [.own C, .dat p5, .dat (nat s0), .dat (nat (s + 1)), z8, z9, z10]) := by
        simp only [mVar, mC, mMap, mMap2, lift_some, lift_none, bind_ok, bind_err, bind_bad, mCons, mNil, mT, asB_bool, asB, mAnd, mOr, mNot, andV_eq, orV_eq, mNotV, mIf, chain_eq, chK_b, mCall, sSeq, sNext, sIf, sRet, sRetN, sDrop, sAsg, sRaise, sFor, sApp, sOwn, setO, ownAt, mOwn1, mPop0, sFrz, frz, sAug, ex_ok, ex_err, ex_bad, then_nx, then_ret, then_brk, then_ct, then_err, optG_some, optG_none, tName, setD, tTupG, tsCons, tsNil, Option.bind_some, List.getElem?_cons_zero, List.getElem?_cons_succ, List.set_cons_zero, List.set_cons_succ, List.length_cons, List.length_nil, Bool.not_true, Bool.not_false, Bool.false_eq_true, if_true, if_false, reduceIte, List.map_cons, List.map_nil, List.cons_append, List.nil_append, List.replicate, Nat.reduceSub, Nat.reduceAdd, Nat.reduceEqDiff, Option.map_some, Option.map_none, outs, Int.reduceAdd, Int.reduceSub, Int.reduceBEq, Int.reduceLT, Int.reduceLE, decide_true, decide_false, beq_self_eq_true, cast_0, cast_1, cast_2, cast_3, cast_4, cast_5, isi_str, isi_tup, addD_i, addI_i, subD_i, leD_i, leD_s, ltD_i, ltD_s, gtD_i, geD_i, eqD_i, neD_i, eqD_b, neD_b, eqD_s, lenD_l, lenD_t, absD_i, intD_i, tupD_l, tupD_t, lstD_l, lstD_t, mkT_0, mkT_1, mkT_2, mkT_3, mkL_0, mkL_1, sized_0, sized_1, ix_0, ix_1, ix_2, isT_t, isT_s, isT_l, isT_i, isT_n, isS_s, isS_t, isS_l, isS_i, isS_n, neD_s, Kd.inj, Mk.inj, Lk.inj, s_km, s_mk, List.length_append, L_c, L_i, L_n, L_a, L_cc, L_ic, L_ii, L_nc, L_ni, L_nn, L_ac, L_ai, L_an, L_aa, w_len, h1, w_ix (mv := mv) (lt := lt) (show s + 1 < n by omega), st_0, mv_right, h]
      have eb : b_grown_1 (gS mv lt n k [.own C, .dat p5, .dat (nat s0), .dat (nat (s + 1)), z8, z9, z10]) = .nx (gS mv lt n k [.own C, .dat p5, .dat (nat s0), .dat (nat (s + 1 + 1)), z8, z9, z10]) := rfl
      rw [while_step et eb, e1, show s + 1 + (rl mv f (s + 1) + 1) = s + 1 + 1 + rl mv f (s + 1) by omega]
      exact ih
theorem upto_cons (i : Nat) (g : Nat) : upto (i : Int) (g + 1) = nat i :: upto ((i + 1 : Nat) : Int) g := by
  unfold upto
  rw [List.range_succ_eq_map, List.map_cons, List.map_map]
  show (PyData.int ((i : Int) + 0) :: _) = _
  rw [Int.add_zero]
  congr 1
  refine List.map_congr_left fun k _ => ?_
  show PyData.int ((i : Int) + ((k + 1 : Nat) : Int)) = .int (((i + 1 : Nat) : Int) + (k : Int))
  congr 1
  omega
theorem gr_for {k : Nat} {p5 d6 d7 : D} {z9 z10 : Sl} : ∀ (g s : Nat) (C : List D) (z8 : Sl), NO z8 → s + g ≤ n → C.length + g ≤ 1000 →
    ∃ z8', NO z8' ∧ forG (tName 8) b_grown_2 (upto (s : Int) g) (gS mv lt n k [.own C, .dat p5, .dat d6, .dat d7, z8, z9, z10]) = .nx (gS mv lt n k [.own (C ++ (List.range g).map fun i => nd lt (s + i) []), .dat p5, .dat d6, .dat d7, z8', z9, z10])
  | 0, s, C, z8, h8, _, _ => ⟨z8, h8, by rw [List.range_zero, List.map_nil, List.append_nil]; rfl⟩
  | g + 1, s, C, z8, h8, hs, hc => by
    obtain ⟨z8', k8, q⟩ := gr_for (k := k) (p5 := p5) (d6 := d6) (d7 := d7) (z9 := z9) (z10 := z10) g (s + 1) (C ++ [nd lt s []]) (.dat (nat s)) trivial (by omega) (by rw [List.length_append, List.length_singleton]; omega)
    refine ⟨z8', k8, ?_⟩
    have hl : C.length < sizeLine := Nat.lt_of_lt_of_le (by omega : C.length < 10001) (small_line (by decide))
    have e2 : b_grown_2 (gS mv lt n k [.own C, .dat p5, .dat d6, .dat d7, .dat (nat s), z9, z10]) = .nx (gS mv lt n k [.own (C ++ [nd lt s []]), .dat p5, .dat d6, .dat d7, .dat (nat s), z9, z10]) := by
      unfold b_grown_2
      simp only [mVar, mC, mMap, mMap2, lift_some, lift_none, bind_ok, bind_err, bind_bad, mCons, mNil, mT, asB_bool, asB, mAnd, mOr, mNot, andV_eq, orV_eq, mNotV, mIf, chain_eq, chK_b, mCall, sSeq, sNext, sIf, sRet, sRetN, sDrop, sAsg, sRaise, sFor, sApp, sOwn, setO, ownAt, mOwn1, mPop0, sFrz, frz, sAug, ex_ok, ex_err, ex_bad, then_nx, then_ret, then_brk, then_ct, then_err, optG_some, optG_none, tName, setD, tTupG, tsCons, tsNil, Option.bind_some, List.getElem?_cons_zero, List.getElem?_cons_succ, List.set_cons_zero, List.set_cons_succ, List.length_cons, List.length_nil, Bool.not_true, Bool.not_false, Bool.false_eq_true, if_true, if_false, reduceIte, List.map_cons, List.map_nil, List.cons_append, List.nil_append, List.replicate, Nat.reduceSub, Nat.reduceAdd, Nat.reduceEqDiff, Option.map_some, Option.map_none, outs, Int.reduceAdd, Int.reduceSub, Int.reduceBEq, Int.reduceLT, Int.reduceLE, decide_true, decide_false, beq_self_eq_true, cast_0, cast_1, cast_2, cast_3, cast_4, cast_5, isi_str, isi_tup, addD_i, addI_i, subD_i, leD_i, leD_s, ltD_i, ltD_s, gtD_i, geD_i, eqD_i, neD_i, eqD_b, neD_b, eqD_s, lenD_l, lenD_t, absD_i, intD_i, tupD_l, tupD_t, lstD_l, lstD_t, mkT_0, mkT_1, mkT_2, mkT_3, mkL_0, mkL_1, sized_0, sized_1, ix_0, ix_1, ix_2, isT_t, isT_s, isT_l, isT_i, isT_n, isS_s, isS_t, isS_l, isS_i, isS_n, neD_s, Kd.inj, Mk.inj, Lk.inj, s_km, s_mk, List.length_append, L_c, L_i, L_n, L_a, L_cc, L_ic, L_ii, L_nc, L_ni, L_nn, L_ac, L_ai, L_an, L_aa, w_ix (mv := mv) (lt := lt) (show s < n by omega), st_1, pr_0, pr_1]
      rw [if_pos hl]
      rfl
    have er : [nd lt s []] ++ (List.range g).map (fun i => nd lt (s + 1 + i) []) = (List.range (g + 1)).map (fun i => nd lt (s + i) []) := by
      rw [List.range_succ_eq_map, List.map_cons, List.map_map]
      show _ :: _ = _ :: _
      congr 1
      refine List.map_congr_left fun i _ => ?_
      show nd lt (s + 1 + i) [] = nd lt (s + (i + 1)) []
      rw [show s + 1 + i = s + (i + 1) by omega]
    rw [upto_cons, for_nx (set_no h8 rfl) e2, q, List.append_assoc, er]
theorem tup_cons {x : Nat} {p : List Nat} (h : p.length ≤ 100) : addD (.tuple [nat x]) (plD p) = some (plD (x :: p)) := by
  show addD (.tuple ([x].map nat)) (.tuple (p.map nat)) = _
  rw [addT_sm (by rw [List.length_map, List.length_map, List.length_singleton]; omega), ← List.map_append]
  rfl
theorem plr_len : ∀ f c k : Nat, (plr mv f c k).length ≤ f + 1
  | 0, _, _ => Nat.le_refl _
  | f + 1, c, k => by
    rw [plr]
    split
    · have := plr_len f 0 (k + 1); rw [List.length_cons]; omega
    · have := plr_len f (c + 1) (k + 1); omega
theorem pl_len (f k : Nat) : (pl mv f k).length ≤ f := by
  cases f with
  | zero => exact Nat.le_refl _
  | succ f =>
    rw [pl]
    split
    · have := plr_len (mv := mv) f 0 (k + 1); omega
    · exact Nat.zero_le _
theorem grown_eq : ∀ (m f k : Nat), k + 1 + f = n → f < m → n ≤ 10 → F_grown m [.dat (wD mv lt n), .dat (nat k)] = .ok (.tuple [(dr mv lt f k).1, plD (pl mv f k)]) [.dat (wD mv lt n), .dat (nat k)]
  | 0, f, k, hn, hm, _ => absurd hm (Nat.not_lt_zero _)
  | m + 1, f, k, hn, hm, hN => by
    have start : ∀ {z : Sts} {s' : Sts} {v : D}, (sSeq (sIf (mAnd (mT (mMap2 (mVar 6) (mMap (mCons (mVar 0) mNil) lenD) ltD)) (mT (mMap2 (mMap2 (mMap2 (mVar 0) (mVar 6) ixD) (mC (.int 0)) ixD) (mC (.str "down")) eqD))) (sSeq (sAsg (mMap2 (mVar 6) (mC (.int 1)) addD) (tName 7)) (sSeq (sWhile 11 (mAnd (mT (mMap2 (mVar 7) (mMap (mCons (mVar 0) mNil) lenD) ltD)) (mT (mMap2 (mMap2 (mMap2 (mVar 0) (mVar 7) ixD) (mC (.int 0)) ixD) (mC (.str "right")) eqD))) b_grown_1) (sSeq (sFor (mMap (mCons (mVar 6) (mCons (mMap2 (mVar 7) (mC (.int 1)) subD) mNil)) rng2) (tName 8) b_grown_2) (sSeq (sAsg (mCall 2 (F_grown m) (mCons (mVar 0) (mCons (mMap2 (mVar 7) (mC (.int 1)) subD) mNil))) (tTupG 2 (tsCons (tName 9) (tsCons (tName 10) tsNil)))) (sSeq (sAsg (mMap2 (mMap (mCons (mOwn1 4 lenD) mNil) mkT) (mVar 10) addD) (tName 5)) (sApp 4 (mVar 9))))))) sNext) (sRet (mMap (mCons (mMap (mCons (mVar 2) (mCons (mVar 3) (mCons (mOwn1 4 tupD) mNil))) mkT) (mCons (mVar 5) mNil)) mkT))) (gS mv lt n k [.own [], .dat (.tuple []), .dat (nat (k + 1)), .un, .un, .un, .un]) = .ret v s' → outs [.dat (wD mv lt n), .dat (nat k)] s' = [.dat (wD mv lt n), .dat (nat k)] → F_grown (m + 1) [.dat (wD mv lt n), .dat (nat k)] = .ok v [.dat (wD mv lt n), .dat (nat k)] := fun {z s' v} e ho => by
      refine run_ret (st := [.dat (wD mv lt n), .dat (nat k), .un, .un, .un, .un, .un, .un, .un, .un, .un]) (s := s') ?_ rfl ho
      unfold g_grown
      refine (seq_nx (s1 := gS mv lt n k [.un, .un, .un, .un, .un, .un, .un]) ?_).trans ?_
      · simp only [mVar, mC, mMap, mMap2, lift_some, lift_none, bind_ok, bind_err, bind_bad, mCons, mNil, mT, asB_bool, asB, mAnd, mOr, mNot, andV_eq, orV_eq, mNotV, mIf, chain_eq, chK_b, mCall, sSeq, sNext, sIf, sRet, sRetN, sDrop, sAsg, sRaise, sFor, sApp, sOwn, setO, ownAt, mOwn1, mPop0, sFrz, frz, sAug, ex_ok, ex_err, ex_bad, then_nx, then_ret, then_brk, then_ct, then_err, optG_some, optG_none, tName, setD, tTupG, tsCons, tsNil, Option.bind_some, List.getElem?_cons_zero, List.getElem?_cons_succ, List.set_cons_zero, List.set_cons_succ, List.length_cons, List.length_nil, Bool.not_true, Bool.not_false, Bool.false_eq_true, if_true, if_false, reduceIte, List.map_cons, List.map_nil, List.cons_append, List.nil_append, List.replicate, Nat.reduceSub, Nat.reduceAdd, Nat.reduceEqDiff, Option.map_some, Option.map_none, outs, Int.reduceAdd, Int.reduceSub, Int.reduceBEq, Int.reduceLT, Int.reduceLE, decide_true, decide_false, beq_self_eq_true, cast_0, cast_1, cast_2, cast_3, cast_4, cast_5, isi_str, isi_tup, addD_i, addI_i, subD_i, leD_i, leD_s, ltD_i, ltD_s, gtD_i, geD_i, eqD_i, neD_i, eqD_b, neD_b, eqD_s, lenD_l, lenD_t, absD_i, intD_i, tupD_l, tupD_t, lstD_l, lstD_t, mkT_0, mkT_1, mkT_2, mkT_3, mkL_0, mkL_1, sized_0, sized_1, ix_0, ix_1, ix_2, isT_t, isT_s, isT_l, isT_i, isT_n, isS_s, isS_t, isS_l, isS_i, isS_n, neD_s, Kd.inj, Mk.inj, Lk.inj, s_km, s_mk, List.length_append, L_c, L_i, L_n, L_a, L_cc, L_ic, L_ii, L_nc, L_ni, L_nn, L_ac, L_ai, L_an, L_aa, w_ix (mv := mv) (lt := lt) (show k < n by omega), st_1, dPr_row]
        rfl
      refine (seq_nx (s1 := gS mv lt n k [.own [], .un, .un, .un, .un, .un, .un]) rfl).trans ?_
      refine (seq_nx (s1 := gS mv lt n k [.own [], .dat (.tuple []), .un, .un, .un, .un, .un]) ?_).trans ?_
      · simp only [mVar, mC, mMap, mMap2, lift_some, lift_none, bind_ok, bind_err, bind_bad, mCons, mNil, mT, asB_bool, asB, mAnd, mOr, mNot, andV_eq, orV_eq, mNotV, mIf, chain_eq, chK_b, mCall, sSeq, sNext, sIf, sRet, sRetN, sDrop, sAsg, sRaise, sFor, sApp, sOwn, setO, ownAt, mOwn1, mPop0, sFrz, frz, sAug, ex_ok, ex_err, ex_bad, then_nx, then_ret, then_brk, then_ct, then_err, optG_some, optG_none, tName, setD, tTupG, tsCons, tsNil, Option.bind_some, List.getElem?_cons_zero, List.getElem?_cons_succ, List.set_cons_zero, List.set_cons_succ, List.length_cons, List.length_nil, Bool.not_true, Bool.not_false, Bool.false_eq_true, if_true, if_false, reduceIte, List.map_cons, List.map_nil, List.cons_append, List.nil_append, List.replicate, Nat.reduceSub, Nat.reduceAdd, Nat.reduceEqDiff, Option.map_some, Option.map_none, outs, Int.reduceAdd, Int.reduceSub, Int.reduceBEq, Int.reduceLT, Int.reduceLE, decide_true, decide_false, beq_self_eq_true, cast_0, cast_1, cast_2, cast_3, cast_4, cast_5, isi_str, isi_tup, addD_i, addI_i, subD_i, leD_i, leD_s, ltD_i, ltD_s, gtD_i, geD_i, eqD_i, neD_i, eqD_b, neD_b, eqD_s, lenD_l, lenD_t, absD_i, intD_i, tupD_l, tupD_t, lstD_l, lstD_t, mkT_0, mkT_1, mkT_2, mkT_3, mkL_0, mkL_1, sized_0, sized_1, ix_0, ix_1, ix_2, isT_t, isT_s, isT_l, isT_i, isT_n, isS_s, isS_t, isS_l, isS_i, isS_n, neD_s, Kd.inj, Mk.inj, Lk.inj, s_km, s_mk, List.length_append, L_c, L_i, L_n, L_a, L_cc, L_ic, L_ii, L_nc, L_ni, L_nn, L_ac, L_ai, L_an, L_aa]
      refine (seq_nx (s1 := gS mv lt n k [.own [], .dat (.tuple []), .dat (nat (k + 1)), .un, .un, .un, .un]) rfl).trans ?_
      exact e
    have leaf : ∀ {z : Sts}, (sRet (mMap (mCons (mMap (mCons (mVar 2) (mCons (mVar 3) (mCons (mOwn1 4 tupD) mNil))) mkT) (mCons (mVar 5) mNil)) mkT)) (gS mv lt n k [.own [], .dat (.tuple []), .dat (nat (k + 1)), .un, .un, .un, .un]) = .ret (.tuple [nd lt k [], plD []]) (gS mv lt n k [.own [], .dat (.tuple []), .dat (nat (k + 1)), .un, .un, .un, .un]) := fun {z} => by
      simp only [mVar, mC, mMap, mMap2, lift_some, lift_none, bind_ok, bind_err, bind_bad, mCons, mNil, mT, asB_bool, asB, mAnd, mOr, mNot, andV_eq, orV_eq, mNotV, mIf, chain_eq, chK_b, mCall, sSeq, sNext, sIf, sRet, sRetN, sDrop, sAsg, sRaise, sFor, sApp, sOwn, setO, ownAt, mOwn1, mPop0, sFrz, frz, sAug, ex_ok, ex_err, ex_bad, then_nx, then_ret, then_brk, then_ct, then_err, optG_some, optG_none, tName, setD, tTupG, tsCons, tsNil, Option.bind_some, List.getElem?_cons_zero, List.getElem?_cons_succ, List.set_cons_zero, List.set_cons_succ, List.length_cons, List.length_nil, Bool.not_true, Bool.not_false, Bool.false_eq_true, if_true, if_false, reduceIte, List.map_cons, List.map_nil, List.cons_append, List.nil_append, List.replicate, Nat.reduceSub, Nat.reduceAdd, Nat.reduceEqDiff, Option.map_some, Option.map_none, outs, Int.reduceAdd, Int.reduceSub, Int.reduceBEq, Int.reduceLT, Int.reduceLE, decide_true, decide_false, beq_self_eq_true, cast_0, cast_1, cast_2, cast_3, cast_4, cast_5, isi_str, isi_tup, addD_i, addI_i, subD_i, leD_i, leD_s, ltD_i, ltD_s, gtD_i, geD_i, eqD_i, neD_i, eqD_b, neD_b, eqD_s, lenD_l, lenD_t, absD_i, intD_i, tupD_l, tupD_t, lstD_l, lstD_t, mkT_0, mkT_1, mkT_2, mkT_3, mkL_0, mkL_1, sized_0, sized_1, ix_0, ix_1, ix_2, isT_t, isT_s, isT_l, isT_i, isT_n, isS_s, isS_t, isS_l, isS_i, isS_n, neD_s, Kd.inj, Mk.inj, Lk.inj, s_km, s_mk, List.length_append, L_c, L_i, L_n, L_a, L_cc, L_ic, L_ii, L_nc, L_ni, L_nn, L_ac, L_ai, L_an, L_aa]
      rfl
    cases f with
    | zero =>
      have h1 : ¬ (((k + 1 : Nat) : Int) < ((n : Nat) : Int)) := by omega
      refine start (z := []) (s' := gS mv lt n k [.own [], .dat (.tuple []), .dat (nat (k + 1)), .un, .un, .un, .un]) ((seq_nx (s1 := gS mv lt n k [.own [], .dat (.tuple []), .dat (nat (k + 1)), .un, .un, .un, .un]) ?_).trans (leaf (z := []))) rfl
      simp only [mVar, mC, mMap, mMap2, lift_some, lift_none, bind_ok, bind_err, bind_bad, mCons, mNil, mT, asB_bool, asB, mAnd, mOr, mNot, andV_eq, orV_eq, mNotV, mIf, chain_eq, chK_b, mCall, sSeq, sNext, sIf, sRet, sRetN, sDrop, sAsg, sRaise, sFor, sApp, sOwn, setO, ownAt, mOwn1, mPop0, sFrz, frz, sAug, ex_ok, ex_err, ex_bad, then_nx, then_ret, then_brk, then_ct, then_err, optG_some, optG_none, tName, setD, tTupG, tsCons, tsNil, Option.bind_some, List.getElem?_cons_zero, List.getElem?_cons_succ, List.set_cons_zero, List.set_cons_succ, List.length_cons, List.length_nil, Bool.not_true, Bool.not_false, Bool.false_eq_true, if_true, if_false, reduceIte, List.map_cons, List.map_nil, List.cons_append, List.nil_append, List.replicate, Nat.reduceSub, Nat.reduceAdd, Nat.reduceEqDiff, Option.map_some, Option.map_none, outs, Int.reduceAdd, Int.reduceSub, Int.reduceBEq, Int.reduceLT, Int.reduceLE, decide_true, decide_false, beq_self_eq_true, cast_0, cast_1, cast_2, cast_3, cast_4, cast_5, isi_str, isi_tup, addD_i, addI_i, subD_i, leD_i, leD_s, ltD_i, ltD_s, gtD_i, geD_i, eqD_i, neD_i, eqD_b, neD_b, eqD_s, lenD_l, lenD_t, absD_i, intD_i, tupD_l, tupD_t, lstD_l, lstD_t, mkT_0, mkT_1, mkT_2, mkT_3, mkL_0, mkL_1, sized_0, sized_1, ix_0, ix_1, ix_2, isT_t, isT_s, isT_l, isT_i, isT_n, isS_s, isS_t, isS_l, isS_i, isS_n, neD_s, Kd.inj, Mk.inj, Lk.inj, s_km, s_mk, List.length_append, L_c, L_i, L_n, L_a, L_cc, L_ic, L_ii, L_nc, L_ni, L_nn, L_ac, L_ai, L_an, L_aa, w_len, h1]
    | succ f =>
      have h1 : ((k + 1 : Nat) : Int) < ((n : Nat) : Int) := by omega
      cases h : mv (k + 1) with
      | false =>
        have e1 : dr mv lt (f + 1) k = (nd lt k [], nd lt k [] :: (dr mv lt f (k + 1)).2) := by rw [dr, if_neg (by rw [h]; decide)]
        have e2 : pl mv (f + 1) k = [] := by rw [pl, if_neg (by rw [h]; decide)]
        rw [e1, e2]
        refine start (z := []) (s' := gS mv lt n k [.own [], .dat (.tuple []), .dat (nat (k + 1)), .un, .un, .un, .un]) ((seq_nx (s1 := gS mv lt n k [.own [], .dat (.tuple []), .dat (nat (k + 1)), .un, .un, .un, .un]) ?_).trans (leaf (z := []))) rfl
        simp only [mVar, mC, mMap, mMap2, lift_some, lift_none, bind_ok, bind_err, bind_bad, mCons, mNil, mT, asB_bool, asB, mAnd, mOr, mNot, andV_eq, orV_eq, mNotV, mIf, chain_eq, chK_b, mCall, sSeq, sNext, sIf, sRet, sRetN, sDrop, sAsg, sRaise, sFor, sApp, sOwn, setO, ownAt, mOwn1, mPop0, sFrz, frz, sAug, ex_ok, ex_err, ex_bad, then_nx, then_ret, then_brk, then_ct, then_err, optG_some, optG_none, tName, setD, tTupG, tsCons, tsNil, Option.bind_some, List.getElem?_cons_zero, List.getElem?_cons_succ, List.set_cons_zero, List.set_cons_succ, List.length_cons, List.length_nil, Bool.not_true, Bool.not_false, Bool.false_eq_true, if_true, if_false, reduceIte, List.map_cons, List.map_nil, List.cons_append, List.nil_append, List.replicate, Nat.reduceSub, Nat.reduceAdd, Nat.reduceEqDiff, Option.map_some, Option.map_none, outs, Int.reduceAdd, Int.reduceSub, Int.reduceBEq, Int.reduceLT, Int.reduceLE, decide_true, decide_false, beq_self_eq_true, cast_0, cast_1, cast_2, cast_3, cast_4, cast_5, isi_str, isi_tup, addD_i, addI_i, subD_i, leD_i, leD_s, ltD_i, ltD_s, gtD_i, geD_i, eqD_i, neD_i, eqD_b, neD_b, eqD_s, lenD_l, lenD_t, absD_i, intD_i, tupD_l, tupD_t, lstD_l, lstD_t, mkT_0, mkT_1, mkT_2, mkT_3, mkL_0, mkL_1, sized_0, sized_1, ix_0, ix_1, ix_2, isT_t, isT_s, isT_l, isT_i, isT_n, isS_s, isS_t, isS_l, isS_i, isS_n, neD_s, Kd.inj, Mk.inj, Lk.inj, s_km, s_mk, List.length_append, L_c, L_i, L_n, L_a, L_cc, L_ic, L_ii, L_nc, L_ni, L_nn, L_ac, L_ai, L_an, L_aa, w_len, h1, w_ix (mv := mv) (lt := lt) (show k + 1 < n by omega), st_0, mv_down, h]
      | true =>
        have e1 : dr mv lt (f + 1) k = (nd lt k (dr mv lt f (k + 1)).2, [nd lt k (dr mv lt f (k + 1)).2]) := by rw [dr, if_pos h]
        have e2 : pl mv (f + 1) k = plr mv f 0 (k + 1) := by rw [pl, if_pos h]
        have hg := rl_le mv f (k + 1)
        have er := dr_row mv lt f (k + 1)
        have ep := plr_row mv f 0 (k + 1)
        rw [Nat.zero_add] at ep
        have wh := gr_while (mv := mv) (lt := lt) (n := n) (k := k) (s0 := k + 1) (C := []) (p5 := .tuple []) (z8 := .un) (z9 := .un) (z10 := .un) f (k + 1) 11 (by omega) (by omega) (by omega)
        generalize rl mv f (k + 1) = g at hg er ep wh
        obtain ⟨z8, k8, fo⟩ := gr_for (mv := mv) (lt := lt) (n := n) (k := k) (p5 := .tuple []) (d6 := nat (k + 1)) (d7 := nat (k + 1 + 1 + g)) (z9 := .un) (z10 := .un) g (k + 1) [] .un trivial (by omega) (by rw [List.length_nil]; omega)
        have ih := grown_eq m (f - g) (k + 1 + g) (by omega) (by omega) hN
        have pb := pl_len (mv := mv) (f - g) (k + 1 + g)
        rw [e1, e2, er, ep]
        generalize (dr mv lt (f - g) (k + 1 + g)).1 = last at ih
        generalize pl mv (f - g) (k + 1 + g) = below at ih pb
        rw [List.nil_append] at fo
        have hC : ((List.range g).map fun i => nd lt (k + 1 + i) []).length = g := by rw [List.length_map, List.length_range]
        generalize ((List.range g).map fun i => nd lt (k + 1 + i) []) = C at fo hC
        have s1 : subD (nat (k + 1 + 1 + g)) (.int 1) = some (nat (k + 1 + g)) := by
          rw [subD_i]
          congr 2
          omega
        have r2 : rng2 [nat (k + 1), nat (k + 1 + g)] = some (upto ((k + 1 : Nat) : Int) g) := by
          rw [rng2_i (by omega), show (((k + 1 + g : Nat) : Int) - ((k + 1 : Nat) : Int)).toNat = g by omega]
        have tc := tup_cons (x := g) (p := below) (by omega)
        have hl : C.length < sizeLine := Nat.lt_of_lt_of_le (by omega : C.length < 10001) (small_line (by decide))
        refine start (z := []) (s' := gS mv lt n k [.own (C ++ [last]), .dat (plD (g :: below)), .dat (nat (k + 1)), .dat (nat (k + 1 + 1 + g)), z8, .dat last, .dat (plD below)]) ((seq_nx (s1 := gS mv lt n k [.own (C ++ [last]), .dat (plD (g :: below)), .dat (nat (k + 1)), .dat (nat (k + 1 + 1 + g)), z8, .dat last, .dat (plD below)]) ?_).trans ?_) rfl
        · have ht : (mAnd (mT (mMap2 (mVar 6) (mMap (mCons (mVar 0) mNil) lenD) ltD)) (mT (mMap2 (mMap2 (mMap2 (mVar 0) (mVar 6) ixD) (mC (.int 0)) ixD) (mC (.str "down")) eqD))) (gS mv lt n k [.own [], .dat (.tuple []), .dat (nat (k + 1)), .un, .un, .un, .un]) = .ok true (gS mv lt n k [.own [], .dat (.tuple []), .dat (nat (k + 1)), .un, .un, .un, .un]) := by
            simp only [mVar, mC, mMap, mMap2, lift_some, lift_none, bind_ok, bind_err, bind_bad, mCons, mNil, mT, asB_bool, asB, mAnd, mOr, mNot, andV_eq, orV_eq, mNotV, mIf, chain_eq, chK_b, mCall, sSeq, sNext, sIf, sRet, sRetN, sDrop, sAsg, sRaise, sFor, sApp, sOwn, setO, ownAt, mOwn1, mPop0, sFrz, frz, sAug, ex_ok, ex_err, ex_bad, then_nx, then_ret, then_brk, then_ct, then_err, optG_some, optG_none, tName, setD, tTupG, tsCons, tsNil, Option.bind_some, List.getElem?_cons_zero, List.getElem?_cons_succ, List.set_cons_zero, List.set_cons_succ, List.length_cons, List.length_nil, Bool.not_true, Bool.not_false, Bool.false_eq_true, if_true, if_false, reduceIte, List.map_cons, List.map_nil, List.cons_append, List.nil_append, List.replicate, Nat.reduceSub, Nat.reduceAdd, Nat.reduceEqDiff, Option.map_some, Option.map_none, outs, Int.reduceAdd, Int.reduceSub, Int.reduceBEq, Int.reduceLT, Int.reduceLE, decide_true, decide_false, beq_self_eq_true, cast_0, cast_1, cast_2, cast_3, cast_4, cast_5, isi_str, isi_tup, addD_i, addI_i, subD_i, leD_i, leD_s, ltD_i, ltD_s, gtD_i, geD_i, eqD_i, neD_i, eqD_b, neD_b, eqD_s, lenD_l, lenD_t, absD_i, intD_i, tupD_l, tupD_t, lstD_l, lstD_t, mkT_0, mkT_1, mkT_2, mkT_3, mkL_0, mkL_1, sized_0, sized_1, ix_0, ix_1, ix_2, isT_t, isT_s, isT_l, isT_i, isT_n, isS_s, isS_t, isS_l, isS_i, isS_n, neD_s, Kd.inj, Mk.inj, Lk.inj, s_km, s_mk, List.length_append, L_c, L_i, L_n, L_a, L_cc, L_ic, L_ii, L_nc, L_ni, L_nn, L_ac, L_ai, L_an, L_aa, w_len, h1, w_ix (mv := mv) (lt := lt) (show k + 1 < n by omega), st_0, mv_down, h]
          rw [if_yes ht]
          refine (seq_nx (s1 := gS mv lt n k [.own [], .dat (.tuple []), .dat (nat (k + 1)), .dat (nat (k + 1 + 1)), .un, .un, .un]) rfl).trans ?_
          refine (seq_nx wh).trans ?_
          refine (seq_nx (sfor_nx ?_ fo)).trans ?_
          · simp only [mVar, mC, mMap, mMap2, lift_some, lift_none, bind_ok, bind_err, bind_bad, mCons, mNil, mT, asB_bool, asB, mAnd, mOr, mNot, andV_eq, orV_eq, mNotV, mIf, chain_eq, chK_b, mCall, sSeq, sNext, sIf, sRet, sRetN, sDrop, sAsg, sRaise, sFor, sApp, sOwn, setO, ownAt, mOwn1, mPop0, sFrz, frz, sAug, ex_ok, ex_err, ex_bad, then_nx, then_ret, then_brk, then_ct, then_err, optG_some, optG_none, tName, setD, tTupG, tsCons, tsNil, Option.bind_some, List.getElem?_cons_zero, List.getElem?_cons_succ, List.set_cons_zero, List.set_cons_succ, List.length_cons, List.length_nil, Bool.not_true, Bool.not_false, Bool.false_eq_true, if_true, if_false, reduceIte, List.map_cons, List.map_nil, List.cons_append, List.nil_append, List.replicate, Nat.reduceSub, Nat.reduceAdd, Nat.reduceEqDiff, Option.map_some, Option.map_none, outs, Int.reduceAdd, Int.reduceSub, Int.reduceBEq, Int.reduceLT, Int.reduceLE, decide_true, decide_false, beq_self_eq_true, cast_0, cast_1, cast_2, cast_3, cast_4, cast_5, isi_str, isi_tup, addD_i, addI_i, subD_i, leD_i, leD_s, ltD_i, ltD_s, gtD_i, geD_i, eqD_i, neD_i, eqD_b, neD_b, eqD_s, lenD_l, lenD_t, absD_i, intD_i, tupD_l, tupD_t, lstD_l, lstD_t, mkT_0, mkT_1, mkT_2, mkT_3, mkL_0, mkL_1, sized_0, sized_1, ix_0, ix_1, ix_2, isT_t, isT_s, isT_l, isT_i, isT_n, isS_s, isS_t, isS_l, isS_i, isS_n, neD_s, Kd.inj, Mk.inj, Lk.inj, s_km, s_mk, List.length_append, L_c, L_i, L_n, L_a, L_cc, L_ic, L_ii, L_nc, L_ni, L_nn, L_ac, L_ai, L_an, L_aa, s1, r2]
          refine (seq_nx (s1 := gS mv lt n k [.own C, .dat (.tuple []), .dat (nat (k + 1)), .dat (nat (k + 1 + 1 + g)), z8, .dat last, .dat (plD below)]) ?_).trans ?_
          · simp only [mVar, mC, mMap, mMap2, lift_some, lift_none, bind_ok, bind_err, bind_bad, mCons, mNil, mT, asB_bool, asB, mAnd, mOr, mNot, andV_eq, orV_eq, mNotV, mIf, chain_eq, chK_b, mCall, sSeq, sNext, sIf, sRet, sRetN, sDrop, sAsg, sRaise, sFor, sApp, sOwn, setO, ownAt, mOwn1, mPop0, sFrz, frz, sAug, ex_ok, ex_err, ex_bad, then_nx, then_ret, then_brk, then_ct, then_err, optG_some, optG_none, tName, setD, tTupG, tsCons, tsNil, Option.bind_some, List.getElem?_cons_zero, List.getElem?_cons_succ, List.set_cons_zero, List.set_cons_succ, List.length_cons, List.length_nil, Bool.not_true, Bool.not_false, Bool.false_eq_true, if_true, if_false, reduceIte, List.map_cons, List.map_nil, List.cons_append, List.nil_append, List.replicate, Nat.reduceSub, Nat.reduceAdd, Nat.reduceEqDiff, Option.map_some, Option.map_none, outs, Int.reduceAdd, Int.reduceSub, Int.reduceBEq, Int.reduceLT, Int.reduceLE, decide_true, decide_false, beq_self_eq_true, cast_0, cast_1, cast_2, cast_3, cast_4, cast_5, isi_str, isi_tup, addD_i, addI_i, subD_i, leD_i, leD_s, ltD_i, ltD_s, gtD_i, geD_i, eqD_i, neD_i, eqD_b, neD_b, eqD_s, lenD_l, lenD_t, absD_i, intD_i, tupD_l, tupD_t, lstD_l, lstD_t, mkT_0, mkT_1, mkT_2, mkT_3, mkL_0, mkL_1, sized_0, sized_1, ix_0, ix_1, ix_2, isT_t, isT_s, isT_l, isT_i, isT_n, isS_s, isS_t, isS_l, isS_i, isS_n, neD_s, Kd.inj, Mk.inj, Lk.inj, s_km, s_mk, List.length_append, L_c, L_i, L_n, L_a, L_cc, L_ic, L_ii, L_nc, L_ni, L_nn, L_ac, L_ai, L_an, L_aa, s1, ih]
          refine (seq_nx (s1 := gS mv lt n k [.own C, .dat (plD (g :: below)), .dat (nat (k + 1)), .dat (nat (k + 1 + 1 + g)), z8, .dat last, .dat (plD below)]) ?_).trans ?_
          · simp only [mVar, mC, mMap, mMap2, lift_some, lift_none, bind_ok, bind_err, bind_bad, mCons, mNil, mT, asB_bool, asB, mAnd, mOr, mNot, andV_eq, orV_eq, mNotV, mIf, chain_eq, chK_b, mCall, sSeq, sNext, sIf, sRet, sRetN, sDrop, sAsg, sRaise, sFor, sApp, sOwn, setO, ownAt, mOwn1, mPop0, sFrz, frz, sAug, ex_ok, ex_err, ex_bad, then_nx, then_ret, then_brk, then_ct, then_err, optG_some, optG_none, tName, setD, tTupG, tsCons, tsNil, Option.bind_some, List.getElem?_cons_zero, List.getElem?_cons_succ, List.set_cons_zero, List.set_cons_succ, List.length_cons, List.length_nil, Bool.not_true, Bool.not_false, Bool.false_eq_true, if_true, if_false, reduceIte, List.map_cons, List.map_nil, List.cons_append, List.nil_append, List.replicate, Nat.reduceSub, Nat.reduceAdd, Nat.reduceEqDiff, Option.map_some, Option.map_none, outs, Int.reduceAdd, Int.reduceSub, Int.reduceBEq, Int.reduceLT, Int.reduceLE, decide_true, decide_false, beq_self_eq_true, cast_0, cast_1, cast_2, cast_3, cast_4, cast_5, isi_str, isi_tup, addD_i, addI_i, subD_i, leD_i, leD_s, ltD_i, ltD_s, gtD_i, geD_i, eqD_i, neD_i, eqD_b, neD_b, eqD_s, lenD_l, lenD_t, absD_i, intD_i, tupD_l, tupD_t, lstD_l, lstD_t, mkT_0, mkT_1, mkT_2, mkT_3, mkL_0, mkL_1, sized_0, sized_1, ix_0, ix_1, ix_2, isT_t, isT_s, isT_l, isT_i, isT_n, isS_s, isS_t, isS_l, isS_i, isS_n, neD_s, Kd.inj, Mk.inj, Lk.inj, s_km, s_mk, List.length_append, L_c, L_i, L_n, L_a, L_cc, L_ic, L_ii, L_nc, L_ni, L_nn, L_ac, L_ai, L_an, L_aa, hC, tc]
          · simp only [mVar, mC, mMap, mMap2, lift_some, lift_none, bind_ok, bind_err, bind_bad, mCons, mNil, mT, asB_bool, asB, mAnd, mOr, mNot, andV_eq, orV_eq, mNotV, mIf, chain_eq, chK_b, mCall, sSeq, sNext, sIf, sRet, sRetN, sDrop, sAsg, sRaise, sFor, sApp, sOwn, setO, ownAt, mOwn1, mPop0, sFrz, frz, sAug, ex_ok, ex_err, ex_bad, then_nx, then_ret, then_brk, then_ct, then_err, optG_some, optG_none, tName, setD, tTupG, tsCons, tsNil, Option.bind_some, List.getElem?_cons_zero, List.getElem?_cons_succ, List.set_cons_zero, List.set_cons_succ, List.length_cons, List.length_nil, Bool.not_true, Bool.not_false, Bool.false_eq_true, if_true, if_false, reduceIte, List.map_cons, List.map_nil, List.cons_append, List.nil_append, List.replicate, Nat.reduceSub, Nat.reduceAdd, Nat.reduceEqDiff, Option.map_some, Option.map_none, outs, Int.reduceAdd, Int.reduceSub, Int.reduceBEq, Int.reduceLT, Int.reduceLE, decide_true, decide_false, beq_self_eq_true, cast_0, cast_1, cast_2, cast_3, cast_4, cast_5, isi_str, isi_tup, addD_i, addI_i, subD_i, leD_i, leD_s, ltD_i, ltD_s, gtD_i, geD_i, eqD_i, neD_i, eqD_b, neD_b, eqD_s, lenD_l, lenD_t, absD_i, intD_i, tupD_l, tupD_t, lstD_l, lstD_t, mkT_0, mkT_1, mkT_2, mkT_3, mkL_0, mkL_1, sized_0, sized_1, ix_0, ix_1, ix_2, isT_t, isT_s, isT_l, isT_i, isT_n, isS_s, isS_t, isS_l, isS_i, isS_n, neD_s, Kd.inj, Mk.inj, Lk.inj, s_km, s_mk, List.length_append, L_c, L_i, L_n, L_a, L_cc, L_ic, L_ii, L_nc, L_ni, L_nn, L_ac, L_ai, L_an, L_aa]
            rw [if_pos hl]
        · have hl2 : (C ++ [last]).length ≤ sizeLine := small_line (by rw [List.length_append, List.length_singleton]; omega)
          simp only [mVar, mC, mMap, mMap2, lift_some, lift_none, bind_ok, bind_err, bind_bad, mCons, mNil, mT, asB_bool, asB, mAnd, mOr, mNot, andV_eq, orV_eq, mNotV, mIf, chain_eq, chK_b, mCall, sSeq, sNext, sIf, sRet, sRetN, sDrop, sAsg, sRaise, sFor, sApp, sOwn, setO, ownAt, mOwn1, mPop0, sFrz, frz, sAug, ex_ok, ex_err, ex_bad, then_nx, then_ret, then_brk, then_ct, then_err, optG_some, optG_none, tName, setD, tTupG, tsCons, tsNil, Option.bind_some, List.getElem?_cons_zero, List.getElem?_cons_succ, List.set_cons_zero, List.set_cons_succ, List.length_cons, List.length_nil, Bool.not_true, Bool.not_false, Bool.false_eq_true, if_true, if_false, reduceIte, List.map_cons, List.map_nil, List.cons_append, List.nil_append, List.replicate, Nat.reduceSub, Nat.reduceAdd, Nat.reduceEqDiff, Option.map_some, Option.map_none, outs, Int.reduceAdd, Int.reduceSub, Int.reduceBEq, Int.reduceLT, Int.reduceLE, decide_true, decide_false, beq_self_eq_true, cast_0, cast_1, cast_2, cast_3, cast_4, cast_5, isi_str, isi_tup, addD_i, addI_i, subD_i, leD_i, leD_s, ltD_i, ltD_s, gtD_i, geD_i, eqD_i, neD_i, eqD_b, neD_b, eqD_s, lenD_l, lenD_t, absD_i, intD_i, tupD_l, tupD_t, lstD_l, lstD_t, mkT_0, mkT_1, mkT_2, mkT_3, mkL_0, mkL_1, sized_0, sized_1, ix_0, ix_1, ix_2, isT_t, isT_s, isT_l, isT_i, isT_n, isS_s, isS_t, isS_l, isS_i, isS_n, neD_s, Kd.inj, Mk.inj, Lk.inj, s_km, s_mk, List.length_append, L_c, L_i, L_n, L_a, L_cc, L_ic, L_ii, L_nc, L_ni, L_nn, L_ac, L_ai, L_an, L_aa]
          rfl
end
end DL

namespace DL
open PySem PySem.Spec L2
/-! ### the law's reading of a walk: math -/
section
variable (mv : Nat → Bool) (lt : Nat → Pr)
def ab : Nat → Int
  | 0 => -1
  | k + 1 => if mv (k + 1) = true then (k : Int) else ab k
def el (t : Nat) : Nat := ((List.range t).filter fun j => ab mv j == ab mv t).length
def seg (s f : Nat) : List Nat := (List.range f).map (s + ·)
end
section
variable {mv : Nat → Bool} {lt : Nat → Pr}
theorem ab_t {k : Nat} (h : mv (k + 1) = true) : ab mv (k + 1) = k := by rw [ab, if_pos h]
theorem ab_f {k : Nat} (h : mv (k + 1) = false) : ab mv (k + 1) = ab mv k := by rw [ab, if_neg (by rw [h]; decide)]
theorem ab_lt : ∀ k : Nat, ab mv k < k
  | 0 => by show (-1 : Int) < 0; decide
  | k + 1 => by
    have := ab_lt k
    rw [ab]
    split <;> omega
theorem ab_ge : ∀ k : Nat, -1 ≤ ab mv k
  | 0 => by show (-1 : Int) ≤ -1; decide
  | k + 1 => by
    have := ab_ge k
    rw [ab]
    split <;> omega
theorem ab_pos (h1 : mv 1 = true) : ∀ k : Nat, 0 ≤ ab mv (k + 1)
  | 0 => by rw [ab_t h1]; decide
  | k + 1 => by
    have := ab_pos h1 k
    rw [ab]
    split <;> omega
theorem seg_cons (s f : Nat) : seg s (f + 1) = s :: seg (s + 1) f := by
  unfold seg
  rw [List.range_succ_eq_map, List.map_cons, List.map_map]
  show (s + 0) :: _ = _
  rw [Nat.add_zero]
  congr 1
  refine List.map_congr_left fun i _ => ?_
  show s + (i + 1) = s + 1 + i
  omega
theorem kidsA {k : Nat} : ∀ (f s : Nat), k < s → ab mv s ≠ k → (seg (s + 1) f).filter (fun j => ab mv j == (k : Int)) = []
  | 0, s, _, _ => rfl
  | f + 1, s, h1, h2 => by
    have h3 : ab mv (s + 1) ≠ k := by
      rw [ab]
      split
      · omega
      · exact h2
    rw [seg_cons, List.filter_cons_of_neg (by rw [beq_iff_eq]; exact h3)]
    exact kidsA f (s + 1) (by omega) h3
theorem dr_t {f k : Nat} (h : mv (k + 1) = true) : dr mv lt (f + 1) k = (nd lt k (dr mv lt f (k + 1)).2, [nd lt k (dr mv lt f (k + 1)).2]) := by rw [dr, if_pos h]
theorem dr_f {f k : Nat} (h : mv (k + 1) = false) : dr mv lt (f + 1) k = (nd lt k [], nd lt k [] :: (dr mv lt f (k + 1)).2) := by rw [dr, if_neg (by rw [h]; decide)]
theorem kidsB {k n : Nat} : ∀ (f s : Nat), k < s → ab mv s = k → s + 1 + f = n → (dr mv lt f s).2 = (dr mv lt f s).1 :: ((seg (s + 1) f).filter (fun j => ab mv j == (k : Int))).map fun j => (dr mv lt (n - 1 - j) j).1
  | 0, s, _, _, _ => rfl
  | f + 1, s, h1, h2, hn => by
    cases h : mv (s + 1) with
    | true =>
      have h3 : ab mv (s + 1) ≠ k := by rw [ab_t h]; omega
      rw [seg_cons, List.filter_cons_of_neg (by rw [beq_iff_eq]; exact h3), kidsA f (s + 1) (by omega) h3, dr_t h]
      rfl
    | false =>
      have h3 : ab mv (s + 1) = k := by rw [ab_f h]; exact h2
      have ih := kidsB (k := k) (n := n) f (s + 1) (by omega) h3 (by omega)
      rw [seg_cons, List.filter_cons_of_pos (by rw [beq_iff_eq]; exact h3), List.map_cons, show n - 1 - (s + 1) = f by omega, ← ih, dr_f h]
theorem kidsC {k n : Nat} : ∀ f, k + 1 + f = n → (dr mv lt f k).1 = nd lt k (((seg (k + 1) f).filter (fun j => ab mv j == (k : Int))).map fun j => (dr mv lt (n - 1 - j) j).1)
  | 0, _ => rfl
  | f + 1, hn => by
    cases h : mv (k + 1) with
    | true =>
      have h3 : ab mv (k + 1) = k := ab_t h
      have kb := kidsB (mv := mv) (lt := lt) (k := k) (n := n) f (k + 1) (by omega) h3 (by omega)
      rw [seg_cons, List.filter_cons_of_pos (by rw [beq_iff_eq]; exact h3), List.map_cons, show n - 1 - (k + 1) = f by omega, ← kb, dr_t h]
    | false =>
      have h4 := ab_lt (mv := mv) k
      have h3 : ab mv (k + 1) ≠ k := by rw [ab_f h]; omega
      rw [seg_cons, List.filter_cons_of_neg (by rw [beq_iff_eq]; exact h3), kidsA f (k + 1) (by omega) h3, dr_f h]
      rfl
/-! places -/
theorem el_t {k : Nat} (h : mv (k + 1) = true) : el mv (k + 1) = 0 := by
  unfold el
  rw [ab_t h]
  have : (List.range (k + 1)).filter (fun j => ab mv j == (k : Int)) = [] := by
    refine List.filter_eq_nil_iff.mpr fun j hj => ?_
    have := List.mem_range.mp hj
    have := ab_lt (mv := mv) j
    rw [beq_iff_eq]
    omega
  rw [this]
  rfl
theorem el_f {k : Nat} (h : mv (k + 1) = false) : el mv (k + 1) = el mv k + 1 := by
  unfold el
  rw [ab_f h, List.range_succ, List.filter_append, List.filter_cons_of_pos (by rw [beq_self_eq_true]), List.length_append]
  rfl
end
section
variable (mv : Nat → Bool)
def pth : Nat → Nat → List Nat
  | 0, _ => []
  | i + 1, t => if 0 ≤ ab mv t then pth i (ab mv t).toNat ++ [el mv t] else []
end
section
variable {mv : Nat → Bool}
theorem pth_fuel : ∀ (i j t : Nat), t < i → t < j → pth mv i t = pth mv j t
  | 0, _, _, h, _ => absurd h (Nat.not_lt_zero _)
  | _ + 1, 0, _, _, h => absurd h (Nat.not_lt_zero _)
  | i + 1, j + 1, t, h1, h2 => by
    rw [pth, pth]
    have := ab_lt (mv := mv) t
    split
    · rw [pth_fuel i j (ab mv t).toNat (by omega) (by omega)]
    · rfl
theorem pth_step {n t : Nat} (ht : t < n) (h : 0 ≤ ab mv t) : pth mv n t = pth mv n (ab mv t).toNat ++ [el mv t] := by
  have := ab_lt (mv := mv) t
  cases n with
  | zero => exact absurd ht (Nat.not_lt_zero _)
  | succ n =>
    rw [pth, if_pos h, pth_fuel n (n + 1) (ab mv t).toNat (by omega) (by omega)]
theorem pth_R {n : Nat} (h1 : mv 1 = true) : ∀ (f k : Nat), k + 1 + 1 + f = n → pth mv n (n - 1) = pth mv n (ab mv (k + 1)).toNat ++ plr mv f (el mv (k + 1)) (k + 1)
  | 0, k, hn => by
    have e : n - 1 = k + 1 := by omega
    rw [e, pth_step (t := k + 1) (by omega) (ab_pos h1 k)]
    rfl
  | f + 1, k, hn => by
    have ih := pth_R (n := n) h1 f (k + 1) (by omega)
    rw [ih, plr]
    cases h : mv (k + 1 + 1) with
    | true =>
      rw [if_pos rfl, ab_t h, el_t h, show (((k + 1 : Nat) : Int)).toNat = k + 1 by omega, pth_step (t := k + 1) (by omega) (ab_pos h1 k), List.append_assoc]
      rfl
    | false =>
      rw [if_neg (by decide), ab_f h, el_f h]
theorem pth_eq {n : Nat} (h0 : 0 < n) (h1 : 2 ≤ n → mv 1 = true) : pth mv n (n - 1) = pl mv (n - 1) 0 := by
  match n, h0, h1 with
  | 1, _, _ => rfl
  | n + 2, _, h1 =>
    have h1 := h1 (by omega)
    have := pth_R (mv := mv) (n := n + 2) h1 n 0 (by omega)
    show _ = pl mv (n + 1) 0
    rw [this, pl, if_pos h1, ab_t h1, el_t h1]
    rfl
end
end DL

namespace DL
open PySem PySem.Spec L2
section
variable {mv : Nat → Bool} {lt : Nat → Pr} {n : Nat}
def nodeD (mv : Nat → Bool) (lt : Nat → Pr) (j : Nat) : D := .tuple [dPr (lt j), .int (ab mv j)]
def nodes (mv : Nat → Bool) (lt : Nat → Pr) (i : Nat) : List D := (List.range i).map (nodeD mv lt)
theorem nodes_len (i : Nat) : (nodes mv lt i).length = i := by unfold nodes; rw [List.length_map, List.length_range]
theorem node_ix {i j : Nat} (h : j < i) : ixD (.list (nodes mv lt i)) (nat j) = some (nodeD mv lt j) := ixl_nat (by unfold nodes; rw [List.getElem?_map, List.getElem?_range h]; rfl)
theorem node_0 (j : Nat) : ixD (nodeD mv lt j) (.int 0) = some (dPr (lt j)) := ix_0 _ _
theorem node_1 (j : Nat) : ixD (nodeD mv lt j) (.int 1) = some (.int (ab mv j)) := ix_1 _ _ _
theorem nodes_snoc (i : Nat) : nodes mv lt i ++ [nodeD mv lt i] = nodes mv lt (i + 1) := by
  unfold nodes
  rw [List.range_succ, List.map_append]
  rfl
theorem c_p (k : Nat) : ((k + 1 : Nat) : Int) - 1 = (k : Int) := by omega
/-- nodes -/
theorem lg_1 {i : Nat} {z2 z3 : Sl} {z : Sts} (h2 : NO z2) (h3 : NO z3) (hi : i < n) (hn : n ≤ 100) : b_law_grown_1 (.dat (wD mv lt n) :: .own (nodes mv lt i) :: .dat (nat i) :: z3 :: z) = .nx (.dat (wD mv lt n) :: .own (nodes mv lt (i + 1)) :: .dat (nat i) :: .dat (.int (ab mv i)) :: z) := by
  have hl : (nodes mv lt i).length < sizeLine := by rw [nodes_len]; exact Nat.lt_of_lt_of_le (by omega : i < 10001) (small_line (by decide))
  have wi := w_ix (mv := mv) (lt := lt) hi
  have ap : (sApp 1 (mMap (mCons (mMap2 (mMap2 (mVar 0) (mVar 2) ixD) (mC (.int 1)) ixD) (mCons (mVar 3) mNil)) mkT)) (.dat (wD mv lt n) :: .own (nodes mv lt i) :: .dat (nat i) :: .dat (.int (ab mv i)) :: z) = .nx (.dat (wD mv lt n) :: .own (nodes mv lt (i + 1)) :: .dat (nat i) :: .dat (.int (ab mv i)) :: z) := by
    simp only [mVar, mC, mMap, mMap2, lift_some, lift_none, bind_ok, bind_err, bind_bad, mCons, mNil, mT, asB_bool, asB, mAnd, mOr, mNot, andV_eq, orV_eq, mNotV, mIf, chain_eq, chK_b, mCall, sSeq, sNext, sIf, sRet, sRetN, sDrop, sAsg, sRaise, sFor, sApp, sOwn, setO, ownAt, mOwn1, mPop0, sFrz, frz, sAug, ex_ok, ex_err, ex_bad, then_nx, then_ret, then_brk, then_ct, then_err, optG_some, optG_none, tName, setD, tTupG, tsCons, tsNil, Option.bind_some, List.getElem?_cons_zero, List.getElem?_cons_succ, List.set_cons_zero, List.set_cons_succ, List.length_cons, List.length_nil, Bool.not_true, Bool.not_false, Bool.false_eq_true, if_true, if_false, reduceIte, List.map_cons, List.map_nil, List.cons_append, List.nil_append, List.replicate, Nat.reduceSub, Nat.reduceAdd, Nat.reduceEqDiff, Option.map_some, Option.map_none, outs, Int.reduceAdd, Int.reduceSub, Int.reduceBEq, Int.reduceLT, Int.reduceLE, decide_true, decide_false, beq_self_eq_true, cast_0, cast_1, cast_2, cast_3, cast_4, cast_5, isi_str, isi_tup, addD_i, addI_i, subD_i, leD_i, leD_s, ltD_i, ltD_s, gtD_i, geD_i, eqD_i, neD_i, eqD_b, neD_b, eqD_s, lenD_l, lenD_t, absD_i, intD_i, tupD_l, tupD_t, lstD_l, lstD_t, mkT_0, mkT_1, mkT_2, mkT_3, mkL_0, mkL_1, sized_0, sized_1, ix_0, ix_1, ix_2, isT_t, isT_s, isT_l, isT_i, isT_n, isS_s, isS_t, isS_l, isS_i, isS_n, neD_s, Kd.inj, Mk.inj, Lk.inj, s_km, s_mk, List.length_append, L_c, L_i, L_n, L_a, L_cc, L_ic, L_ii, L_nc, L_ni, L_nn, L_ac, L_ai, L_an, L_aa, wi, st_1]
    rw [if_pos hl, ← nodes_snoc]
    rfl
  unfold b_law_grown_1
  refine (seq_nx (s1 := .dat (wD mv lt n) :: .own (nodes mv lt i) :: .dat (nat i) :: .dat (.int (-1)) :: z) ?_).trans ?_
  · cases z3 <;> first | rfl | exact h3.elim
  cases i with
  | zero =>
    refine (seq_nx (s1 := .dat (wD mv lt n) :: .own (nodes mv lt 0) :: .dat (nat 0) :: .dat (.int (-1)) :: z) ?_).trans ?_
    · simp only [mVar, mC, mMap, mMap2, lift_some, lift_none, bind_ok, bind_err, bind_bad, mCons, mNil, mT, asB_bool, asB, mAnd, mOr, mNot, andV_eq, orV_eq, mNotV, mIf, chain_eq, chK_b, mCall, sSeq, sNext, sIf, sRet, sRetN, sDrop, sAsg, sRaise, sFor, sApp, sOwn, setO, ownAt, mOwn1, mPop0, sFrz, frz, sAug, ex_ok, ex_err, ex_bad, then_nx, then_ret, then_brk, then_ct, then_err, optG_some, optG_none, tName, setD, tTupG, tsCons, tsNil, Option.bind_some, List.getElem?_cons_zero, List.getElem?_cons_succ, List.set_cons_zero, List.set_cons_succ, List.length_cons, List.length_nil, Bool.not_true, Bool.not_false, Bool.false_eq_true, if_true, if_false, reduceIte, List.map_cons, List.map_nil, List.cons_append, List.nil_append, List.replicate, Nat.reduceSub, Nat.reduceAdd, Nat.reduceEqDiff, Option.map_some, Option.map_none, outs, Int.reduceAdd, Int.reduceSub, Int.reduceBEq, Int.reduceLT, Int.reduceLE, decide_true, decide_false, beq_self_eq_true, cast_0, cast_1, cast_2, cast_3, cast_4, cast_5, isi_str, isi_tup, addD_i, addI_i, subD_i, leD_i, leD_s, ltD_i, ltD_s, gtD_i, geD_i, eqD_i, neD_i, eqD_b, neD_b, eqD_s, lenD_l, lenD_t, absD_i, intD_i, tupD_l, tupD_t, lstD_l, lstD_t, mkT_0, mkT_1, mkT_2, mkT_3, mkL_0, mkL_1, sized_0, sized_1, ix_0, ix_1, ix_2, isT_t, isT_s, isT_l, isT_i, isT_n, isS_s, isS_t, isS_l, isS_i, isS_n, neD_s, Kd.inj, Mk.inj, Lk.inj, s_km, s_mk, List.length_append, L_c, L_i, L_n, L_a, L_cc, L_ic, L_ii, L_nc, L_ni, L_nn, L_ac, L_ai, L_an, L_aa, wi, st_0, mv0_down]
    refine (seq_nx (s1 := .dat (wD mv lt n) :: .own (nodes mv lt 0) :: .dat (nat 0) :: .dat (.int (-1)) :: z) ?_).trans ?_
    · simp only [mVar, mC, mMap, mMap2, lift_some, lift_none, bind_ok, bind_err, bind_bad, mCons, mNil, mT, asB_bool, asB, mAnd, mOr, mNot, andV_eq, orV_eq, mNotV, mIf, chain_eq, chK_b, mCall, sSeq, sNext, sIf, sRet, sRetN, sDrop, sAsg, sRaise, sFor, sApp, sOwn, setO, ownAt, mOwn1, mPop0, sFrz, frz, sAug, ex_ok, ex_err, ex_bad, then_nx, then_ret, then_brk, then_ct, then_err, optG_some, optG_none, tName, setD, tTupG, tsCons, tsNil, Option.bind_some, List.getElem?_cons_zero, List.getElem?_cons_succ, List.set_cons_zero, List.set_cons_succ, List.length_cons, List.length_nil, Bool.not_true, Bool.not_false, Bool.false_eq_true, if_true, if_false, reduceIte, List.map_cons, List.map_nil, List.cons_append, List.nil_append, List.replicate, Nat.reduceSub, Nat.reduceAdd, Nat.reduceEqDiff, Option.map_some, Option.map_none, outs, Int.reduceAdd, Int.reduceSub, Int.reduceBEq, Int.reduceLT, Int.reduceLE, decide_true, decide_false, beq_self_eq_true, cast_0, cast_1, cast_2, cast_3, cast_4, cast_5, isi_str, isi_tup, addD_i, addI_i, subD_i, leD_i, leD_s, ltD_i, ltD_s, gtD_i, geD_i, eqD_i, neD_i, eqD_b, neD_b, eqD_s, lenD_l, lenD_t, absD_i, intD_i, tupD_l, tupD_t, lstD_l, lstD_t, mkT_0, mkT_1, mkT_2, mkT_3, mkL_0, mkL_1, sized_0, sized_1, ix_0, ix_1, ix_2, isT_t, isT_s, isT_l, isT_i, isT_n, isS_s, isS_t, isS_l, isS_i, isS_n, neD_s, Kd.inj, Mk.inj, Lk.inj, s_km, s_mk, List.length_append, L_c, L_i, L_n, L_a, L_cc, L_ic, L_ii, L_nc, L_ni, L_nn, L_ac, L_ai, L_an, L_aa, wi, st_0, mv0_right]
    exact ap
  | succ j =>
    cases h : mv (j + 1) with
    | true =>
      refine (seq_nx (s1 := .dat (wD mv lt n) :: .own (nodes mv lt (j + 1)) :: .dat (nat (j + 1)) :: .dat (nat j) :: z) ?_).trans ?_
      · simp only [mVar, mC, mMap, mMap2, lift_some, lift_none, bind_ok, bind_err, bind_bad, mCons, mNil, mT, asB_bool, asB, mAnd, mOr, mNot, andV_eq, orV_eq, mNotV, mIf, chain_eq, chK_b, mCall, sSeq, sNext, sIf, sRet, sRetN, sDrop, sAsg, sRaise, sFor, sApp, sOwn, setO, ownAt, mOwn1, mPop0, sFrz, frz, sAug, ex_ok, ex_err, ex_bad, then_nx, then_ret, then_brk, then_ct, then_err, optG_some, optG_none, tName, setD, tTupG, tsCons, tsNil, Option.bind_some, List.getElem?_cons_zero, List.getElem?_cons_succ, List.set_cons_zero, List.set_cons_succ, List.length_cons, List.length_nil, Bool.not_true, Bool.not_false, Bool.false_eq_true, if_true, if_false, reduceIte, List.map_cons, List.map_nil, List.cons_append, List.nil_append, List.replicate, Nat.reduceSub, Nat.reduceAdd, Nat.reduceEqDiff, Option.map_some, Option.map_none, outs, Int.reduceAdd, Int.reduceSub, Int.reduceBEq, Int.reduceLT, Int.reduceLE, decide_true, decide_false, beq_self_eq_true, cast_0, cast_1, cast_2, cast_3, cast_4, cast_5, isi_str, isi_tup, addD_i, addI_i, subD_i, leD_i, leD_s, ltD_i, ltD_s, gtD_i, geD_i, eqD_i, neD_i, eqD_b, neD_b, eqD_s, lenD_l, lenD_t, absD_i, intD_i, tupD_l, tupD_t, lstD_l, lstD_t, mkT_0, mkT_1, mkT_2, mkT_3, mkL_0, mkL_1, sized_0, sized_1, ix_0, ix_1, ix_2, isT_t, isT_s, isT_l, isT_i, isT_n, isS_s, isS_t, isS_l, isS_i, isS_n, neD_s, Kd.inj, Mk.inj, Lk.inj, s_km, s_mk, List.length_append, L_c, L_i, L_n, L_a, L_cc, L_ic, L_ii, L_nc, L_ni, L_nn, L_ac, L_ai, L_an, L_aa, wi, st_0, mv_down, h, c_p]
      refine (seq_nx (s1 := .dat (wD mv lt n) :: .own (nodes mv lt (j + 1)) :: .dat (nat (j + 1)) :: .dat (nat j) :: z) ?_).trans ?_
      · simp only [mVar, mC, mMap, mMap2, lift_some, lift_none, bind_ok, bind_err, bind_bad, mCons, mNil, mT, asB_bool, asB, mAnd, mOr, mNot, andV_eq, orV_eq, mNotV, mIf, chain_eq, chK_b, mCall, sSeq, sNext, sIf, sRet, sRetN, sDrop, sAsg, sRaise, sFor, sApp, sOwn, setO, ownAt, mOwn1, mPop0, sFrz, frz, sAug, ex_ok, ex_err, ex_bad, then_nx, then_ret, then_brk, then_ct, then_err, optG_some, optG_none, tName, setD, tTupG, tsCons, tsNil, Option.bind_some, List.getElem?_cons_zero, List.getElem?_cons_succ, List.set_cons_zero, List.set_cons_succ, List.length_cons, List.length_nil, Bool.not_true, Bool.not_false, Bool.false_eq_true, if_true, if_false, reduceIte, List.map_cons, List.map_nil, List.cons_append, List.nil_append, List.replicate, Nat.reduceSub, Nat.reduceAdd, Nat.reduceEqDiff, Option.map_some, Option.map_none, outs, Int.reduceAdd, Int.reduceSub, Int.reduceBEq, Int.reduceLT, Int.reduceLE, decide_true, decide_false, beq_self_eq_true, cast_0, cast_1, cast_2, cast_3, cast_4, cast_5, isi_str, isi_tup, addD_i, addI_i, subD_i, leD_i, leD_s, ltD_i, ltD_s, gtD_i, geD_i, eqD_i, neD_i, eqD_b, neD_b, eqD_s, lenD_l, lenD_t, absD_i, intD_i, tupD_l, tupD_t, lstD_l, lstD_t, mkT_0, mkT_1, mkT_2, mkT_3, mkL_0, mkL_1, sized_0, sized_1, ix_0, ix_1, ix_2, isT_t, isT_s, isT_l, isT_i, isT_n, isS_s, isS_t, isS_l, isS_i, isS_n, neD_s, Kd.inj, Mk.inj, Lk.inj, s_km, s_mk, List.length_append, L_c, L_i, L_n, L_a, L_cc, L_ic, L_ii, L_nc, L_ni, L_nn, L_ac, L_ai, L_an, L_aa, wi, st_0, mv_right, h]
      rw [ab_t h] at ap
      rw [ab_t h]
      exact ap
    | false =>
      refine (seq_nx (s1 := .dat (wD mv lt n) :: .own (nodes mv lt (j + 1)) :: .dat (nat (j + 1)) :: .dat (.int (-1)) :: z) ?_).trans ?_
      · simp only [mVar, mC, mMap, mMap2, lift_some, lift_none, bind_ok, bind_err, bind_bad, mCons, mNil, mT, asB_bool, asB, mAnd, mOr, mNot, andV_eq, orV_eq, mNotV, mIf, chain_eq, chK_b, mCall, sSeq, sNext, sIf, sRet, sRetN, sDrop, sAsg, sRaise, sFor, sApp, sOwn, setO, ownAt, mOwn1, mPop0, sFrz, frz, sAug, ex_ok, ex_err, ex_bad, then_nx, then_ret, then_brk, then_ct, then_err, optG_some, optG_none, tName, setD, tTupG, tsCons, tsNil, Option.bind_some, List.getElem?_cons_zero, List.getElem?_cons_succ, List.set_cons_zero, List.set_cons_succ, List.length_cons, List.length_nil, Bool.not_true, Bool.not_false, Bool.false_eq_true, if_true, if_false, reduceIte, List.map_cons, List.map_nil, List.cons_append, List.nil_append, List.replicate, Nat.reduceSub, Nat.reduceAdd, Nat.reduceEqDiff, Option.map_some, Option.map_none, outs, Int.reduceAdd, Int.reduceSub, Int.reduceBEq, Int.reduceLT, Int.reduceLE, decide_true, decide_false, beq_self_eq_true, cast_0, cast_1, cast_2, cast_3, cast_4, cast_5, isi_str, isi_tup, addD_i, addI_i, subD_i, leD_i, leD_s, ltD_i, ltD_s, gtD_i, geD_i, eqD_i, neD_i, eqD_b, neD_b, eqD_s, lenD_l, lenD_t, absD_i, intD_i, tupD_l, tupD_t, lstD_l, lstD_t, mkT_0, mkT_1, mkT_2, mkT_3, mkL_0, mkL_1, sized_0, sized_1, ix_0, ix_1, ix_2, isT_t, isT_s, isT_l, isT_i, isT_n, isS_s, isS_t, isS_l, isS_i, isS_n, neD_s, Kd.inj, Mk.inj, Lk.inj, s_km, s_mk, List.length_append, L_c, L_i, L_n, L_a, L_cc, L_ic, L_ii, L_nc, L_ni, L_nn, L_ac, L_ai, L_an, L_aa, wi, st_0, mv_down, h]
      refine (seq_nx (s1 := .dat (wD mv lt n) :: .own (nodes mv lt (j + 1)) :: .dat (nat (j + 1)) :: .dat (.int (ab mv j)) :: z) ?_).trans ?_
      · simp only [mVar, mC, mMap, mMap2, lift_some, lift_none, bind_ok, bind_err, bind_bad, mCons, mNil, mT, asB_bool, asB, mAnd, mOr, mNot, andV_eq, orV_eq, mNotV, mIf, chain_eq, chK_b, mCall, sSeq, sNext, sIf, sRet, sRetN, sDrop, sAsg, sRaise, sFor, sApp, sOwn, setO, ownAt, mOwn1, mPop0, sFrz, frz, sAug, ex_ok, ex_err, ex_bad, then_nx, then_ret, then_brk, then_ct, then_err, optG_some, optG_none, tName, setD, tTupG, tsCons, tsNil, Option.bind_some, List.getElem?_cons_zero, List.getElem?_cons_succ, List.set_cons_zero, List.set_cons_succ, List.length_cons, List.length_nil, Bool.not_true, Bool.not_false, Bool.false_eq_true, if_true, if_false, reduceIte, List.map_cons, List.map_nil, List.cons_append, List.nil_append, List.replicate, Nat.reduceSub, Nat.reduceAdd, Nat.reduceEqDiff, Option.map_some, Option.map_none, outs, Int.reduceAdd, Int.reduceSub, Int.reduceBEq, Int.reduceLT, Int.reduceLE, decide_true, decide_false, beq_self_eq_true, cast_0, cast_1, cast_2, cast_3, cast_4, cast_5, isi_str, isi_tup, addD_i, addI_i, subD_i, leD_i, leD_s, ltD_i, ltD_s, gtD_i, geD_i, eqD_i, neD_i, eqD_b, neD_b, eqD_s, lenD_l, lenD_t, absD_i, intD_i, tupD_l, tupD_t, lstD_l, lstD_t, mkT_0, mkT_1, mkT_2, mkT_3, mkL_0, mkL_1, sized_0, sized_1, ix_0, ix_1, ix_2, isT_t, isT_s, isT_l, isT_i, isT_n, isS_s, isS_t, isS_l, isS_i, isS_n, neD_s, Kd.inj, Mk.inj, Lk.inj, s_km, s_mk, List.length_append, L_c, L_i, L_n, L_a, L_cc, L_ic, L_ii, L_nc, L_ni, L_nn, L_ac, L_ai, L_an, L_aa, wi, st_0, mv_right, h, mOwnL, c_p, node_ix (mv := mv) (lt := lt) (Nat.lt_succ_self j), node_1]
      rw [ab_f h] at ap
      rw [ab_f h]
      exact ap
/-- the elements that are built -/
def Bl (mv : Nat → Bool) (lt : Nat → Pr) (n i : Nat) : List D := (List.range n).map fun j => if n ≤ i + j then (dr mv lt (n - 1 - j) j).1 else .none
theorem Bl_len (i : Nat) : (Bl mv lt n i).length = n := by unfold Bl; rw [List.length_map, List.length_range]
theorem Bl_ix {i j : Nat} (h : j < n) (h2 : n ≤ i + j) : ixD (.list (Bl mv lt n i)) (nat j) = some (dr mv lt (n - 1 - j) j).1 := ixl_nat (by unfold Bl; rw [List.getElem?_map, List.getElem?_range h, Option.map_some, if_pos h2])
theorem Bl_set {i : Nat} (h : i < n) : (Bl mv lt n i).set (n - 1 - i) (dr mv lt i (n - 1 - i)).1 = Bl mv lt n (i + 1) := by
  unfold Bl
  refine List.ext_getElem (by rw [List.length_set, List.length_map, List.length_map]) fun j h1 h2 => ?_
  have h2' := h2
  rw [List.length_map, List.length_range] at h2'
  rw [List.getElem_set, List.getElem_map, List.getElem_map, List.getElem_range]
  by_cases e : n - 1 - i = j
  · rw [if_pos e, if_pos (by omega), ← e, show n - 1 - (n - 1 - i) = i by omega]
  · rw [if_neg e]
    by_cases e2 : n ≤ i + j
    · rw [if_pos e2, if_pos (by omega)]
    · rw [if_neg e2, if_neg (by omega)]
theorem seg_upto (s f : Nat) : upto (s : Int) f = (seg s f).map nat := by
  unfold upto seg
  rw [List.map_map]
  exact List.map_congr_left fun i _ => rfl
theorem lg_4 {i : Nat} {z3 z5 z9 z7 z8 : Sl} (h5 : NO z5) (hi : i < n) (hn : n ≤ 100) :
    b_law_grown_4 [.dat (wD mv lt n), .own (nodes mv lt n), .dat (nat (n - 1 - i)), z3, .own (Bl mv lt n i), z5, .un, z7, z8, z9] = .nx [.dat (wD mv lt n), .own (nodes mv lt n), .dat (nat (n - 1 - i)), z3, .own (Bl mv lt n (i + 1)), .dat (.tuple (((seg (n - 1 - i + 1) i).filter (fun j => ab mv j == ((n - 1 - i : Nat) : Int))).map fun j => (dr mv lt (n - 1 - j) j).1)), .un, z7, z8, z9] := by
  have kc := kidsC (mv := mv) (lt := lt) (k := n - 1 - i) (n := n) i (by omega)
  have bs := Bl_set (mv := mv) (lt := lt) hi
  rw [kc] at bs
  have hk : n - 1 - i < n := by omega
  have hki : n = i + (n - 1 - i) + 1 := by omega
  generalize n - 1 - i = k at *
  have lc := lc_filter (vs := [6]) (t := tName 6) (test := t_law_grown_3) (elt := e_law_grown_2) (s := [.dat (wD mv lt n), .own (nodes mv lt n), .dat (nat k), z3, .own (Bl mv lt n i), z5, .un, z7, z8, z9]) nat (fun j => (dr mv lt (n - 1 - j) j).1) (fun j => ab mv j == (k : Int)) (xs := seg (k + 1) i) (fun j hj => by
    obtain ⟨d, hd, rfl⟩ := List.mem_map.mp hj
    have hd := List.mem_range.mp hd
    have hj : k + 1 + d < n := by omega
    refine ⟨[.dat (wD mv lt n), .own (nodes mv lt n), .dat (nat k), z3, .own (Bl mv lt n i), z5, .dat (nat (k + 1 + d)), z7, z8, z9], rfl, ?_, fun _ => ?_, rfl⟩
    · unfold t_law_grown_3
      simp only [mVar, mC, mMap, mMap2, lift_some, lift_none, bind_ok, bind_err, bind_bad, mCons, mNil, mT, asB_bool, asB, mAnd, mOr, mNot, andV_eq, orV_eq, mNotV, mIf, chain_eq, chK_b, mCall, sSeq, sNext, sIf, sRet, sRetN, sDrop, sAsg, sRaise, sFor, sApp, sOwn, setO, ownAt, mOwn1, mPop0, sFrz, frz, sAug, ex_ok, ex_err, ex_bad, then_nx, then_ret, then_brk, then_ct, then_err, optG_some, optG_none, tName, setD, tTupG, tsCons, tsNil, Option.bind_some, List.getElem?_cons_zero, List.getElem?_cons_succ, List.set_cons_zero, List.set_cons_succ, List.length_cons, List.length_nil, Bool.not_true, Bool.not_false, Bool.false_eq_true, if_true, if_false, reduceIte, List.map_cons, List.map_nil, List.cons_append, List.nil_append, List.replicate, Nat.reduceSub, Nat.reduceAdd, Nat.reduceEqDiff, Option.map_some, Option.map_none, outs, Int.reduceAdd, Int.reduceSub, Int.reduceBEq, Int.reduceLT, Int.reduceLE, decide_true, decide_false, beq_self_eq_true, cast_0, cast_1, cast_2, cast_3, cast_4, cast_5, isi_str, isi_tup, addD_i, addI_i, subD_i, leD_i, leD_s, ltD_i, ltD_s, gtD_i, geD_i, eqD_i, neD_i, eqD_b, neD_b, eqD_s, lenD_l, lenD_t, absD_i, intD_i, tupD_l, tupD_t, lstD_l, lstD_t, mkT_0, mkT_1, mkT_2, mkT_3, mkL_0, mkL_1, sized_0, sized_1, ix_0, ix_1, ix_2, isT_t, isT_s, isT_l, isT_i, isT_n, isS_s, isS_t, isS_l, isS_i, isS_n, neD_s, Kd.inj, Mk.inj, Lk.inj, s_km, s_mk, List.length_append, L_c, L_i, L_n, L_a, L_cc, L_ic, L_ii, L_nc, L_ni, L_nn, L_ac, L_ai, L_an, L_aa, mOwnL, node_ix (mv := mv) (lt := lt) hj, node_1]
    · unfold e_law_grown_2
      simp only [mVar, mC, mMap, mMap2, lift_some, lift_none, bind_ok, bind_err, bind_bad, mCons, mNil, mT, asB_bool, asB, mAnd, mOr, mNot, andV_eq, orV_eq, mNotV, mIf, chain_eq, chK_b, mCall, sSeq, sNext, sIf, sRet, sRetN, sDrop, sAsg, sRaise, sFor, sApp, sOwn, setO, ownAt, mOwn1, mPop0, sFrz, frz, sAug, ex_ok, ex_err, ex_bad, then_nx, then_ret, then_brk, then_ct, then_err, optG_some, optG_none, tName, setD, tTupG, tsCons, tsNil, Option.bind_some, List.getElem?_cons_zero, List.getElem?_cons_succ, List.set_cons_zero, List.set_cons_succ, List.length_cons, List.length_nil, Bool.not_true, Bool.not_false, Bool.false_eq_true, if_true, if_false, reduceIte, List.map_cons, List.map_nil, List.cons_append, List.nil_append, List.replicate, Nat.reduceSub, Nat.reduceAdd, Nat.reduceEqDiff, Option.map_some, Option.map_none, outs, Int.reduceAdd, Int.reduceSub, Int.reduceBEq, Int.reduceLT, Int.reduceLE, decide_true, decide_false, beq_self_eq_true, cast_0, cast_1, cast_2, cast_3, cast_4, cast_5, isi_str, isi_tup, addD_i, addI_i, subD_i, leD_i, leD_s, ltD_i, ltD_s, gtD_i, geD_i, eqD_i, neD_i, eqD_b, neD_b, eqD_s, lenD_l, lenD_t, absD_i, intD_i, tupD_l, tupD_t, lstD_l, lstD_t, mkT_0, mkT_1, mkT_2, mkT_3, mkL_0, mkL_1, sized_0, sized_1, ix_0, ix_1, ix_2, isT_t, isT_s, isT_l, isT_i, isT_n, isS_s, isS_t, isS_l, isS_i, isS_n, neD_s, Kd.inj, Mk.inj, Lk.inj, s_km, s_mk, List.length_append, L_c, L_i, L_n, L_a, L_cc, L_ic, L_ii, L_nc, L_ni, L_nn, L_ac, L_ai, L_an, L_aa, mOwnL, Bl_ix (mv := mv) (lt := lt) (i := i) hj (by omega)])
  have hf : ((seg (k + 1) i).filter (fun j => ab mv j == (k : Int))).length ≤ 100 := by
    have := List.length_filter_le (fun j => ab mv j == (k : Int)) (seg (k + 1) i)
    have e : (seg (k + 1) i).length = i := by unfold seg; rw [List.length_map, List.length_range]
    omega
  have r2 : rng2 [nat (k + 1), nat n] = some ((seg (k + 1) i).map nat) := by rw [rng2_i (by omega), show (((n : Nat) : Int) - ((k + 1 : Nat) : Int)).toNat = i by omega, seg_upto]
  have lq : mLc [6] (mMap (mCons (mMap2 (mVar 2) (mC (.int 1)) addD) (mCons (mMap (mCons (mVar 0) mNil) lenD) mNil)) rng2) (tName 6) t_law_grown_3 e_law_grown_2 [.dat (wD mv lt n), .own (nodes mv lt n), .dat (nat k), z3, .own (Bl mv lt n i), z5, .un, z7, z8, z9] = .ok (((seg (k + 1) i).filter (fun j => ab mv j == (k : Int))).map fun j => (dr mv lt (n - 1 - j) j).1) [.dat (wD mv lt n), .own (nodes mv lt n), .dat (nat k), z3, .own (Bl mv lt n i), z5, .un, z7, z8, z9] :=
    mLc_ok (s1 := [.dat (wD mv lt n), .own (nodes mv lt n), .dat (nat k), z3, .own (Bl mv lt n i), z5, .un, z7, z8, z9]) (ds := (seg (k + 1) i).map nat) (by simp only [mVar, mC, mMap, mMap2, lift_some, lift_none, bind_ok, bind_err, bind_bad, mCons, mNil, mT, asB_bool, asB, mAnd, mOr, mNot, andV_eq, orV_eq, mNotV, mIf, chain_eq, chK_b, mCall, sSeq, sNext, sIf, sRet, sRetN, sDrop, sAsg, sRaise, sFor, sApp, sOwn, setO, ownAt, mOwn1, mPop0, sFrz, frz, sAug, ex_ok, ex_err, ex_bad, then_nx, then_ret, then_brk, then_ct, then_err, optG_some, optG_none, tName, setD, tTupG, tsCons, tsNil, Option.bind_some, List.getElem?_cons_zero, List.getElem?_cons_succ, List.set_cons_zero, List.set_cons_succ, List.length_cons, List.length_nil, Bool.not_true, Bool.not_false, Bool.false_eq_true, if_true, if_false, reduceIte, List.map_cons, List.map_nil, List.cons_append, List.nil_append, List.replicate, Nat.reduceSub, Nat.reduceAdd, Nat.reduceEqDiff, Option.map_some, Option.map_none, outs, Int.reduceAdd, Int.reduceSub, Int.reduceBEq, Int.reduceLT, Int.reduceLE, decide_true, decide_false, beq_self_eq_true, cast_0, cast_1, cast_2, cast_3, cast_4, cast_5, isi_str, isi_tup, addD_i, addI_i, subD_i, leD_i, leD_s, ltD_i, ltD_s, gtD_i, geD_i, eqD_i, neD_i, eqD_b, neD_b, eqD_s, lenD_l, lenD_t, absD_i, intD_i, tupD_l, tupD_t, lstD_l, lstD_t, mkT_0, mkT_1, mkT_2, mkT_3, mkL_0, mkL_1, sized_0, sized_1, ix_0, ix_1, ix_2, isT_t, isT_s, isT_l, isT_i, isT_n, isS_s, isS_t, isS_l, isS_i, isS_n, neD_s, Kd.inj, Mk.inj, Lk.inj, s_km, s_mk, List.length_append, L_c, L_i, L_n, L_a, L_cc, L_ic, L_ii, L_nc, L_ni, L_nn, L_ac, L_ai, L_an, L_aa, w_len, c_s, r2]) rfl lc (by rw [List.length_map]; exact small_line (by omega)) rfl
  generalize ((seg (k + 1) i).filter (fun j => ab mv j == (k : Int))).map (fun j => (dr mv lt (n - 1 - j) j).1) = ch at lq bs
  unfold b_law_grown_4
  refine (seq_nx (s1 := [.dat (wD mv lt n), .own (nodes mv lt n), .dat (nat k), z3, .own (Bl mv lt n i), .dat (.tuple ch), .un, z7, z8, z9]) ?_).trans ?_
  · cases z5 <;> first | exact h5.elim | (simp only [mVar, mC, mMap, mMap2, lift_some, lift_none, bind_ok, bind_err, bind_bad, mCons, mNil, mT, asB_bool, asB, mAnd, mOr, mNot, andV_eq, orV_eq, mNotV, mIf, chain_eq, chK_b, mCall, sSeq, sNext, sIf, sRet, sRetN, sDrop, sAsg, sRaise, sFor, sApp, sOwn, setO, ownAt, mOwn1, mPop0, sFrz, frz, sAug, ex_ok, ex_err, ex_bad, then_nx, then_ret, then_brk, then_ct, then_err, optG_some, optG_none, tName, setD, tTupG, tsCons, tsNil, Option.bind_some, List.getElem?_cons_zero, List.getElem?_cons_succ, List.set_cons_zero, List.set_cons_succ, List.length_cons, List.length_nil, Bool.not_true, Bool.not_false, Bool.false_eq_true, if_true, if_false, reduceIte, List.map_cons, List.map_nil, List.cons_append, List.nil_append, List.replicate, Nat.reduceSub, Nat.reduceAdd, Nat.reduceEqDiff, Option.map_some, Option.map_none, outs, Int.reduceAdd, Int.reduceSub, Int.reduceBEq, Int.reduceLT, Int.reduceLE, decide_true, decide_false, beq_self_eq_true, cast_0, cast_1, cast_2, cast_3, cast_4, cast_5, isi_str, isi_tup, addD_i, addI_i, subD_i, leD_i, leD_s, ltD_i, ltD_s, gtD_i, geD_i, eqD_i, neD_i, eqD_b, neD_b, eqD_s, lenD_l, lenD_t, absD_i, intD_i, tupD_l, tupD_t, lstD_l, lstD_t, mkT_0, mkT_1, mkT_2, mkT_3, mkL_0, mkL_1, sized_0, sized_1, ix_0, ix_1, ix_2, isT_t, isT_s, isT_l, isT_i, isT_n, isS_s, isS_t, isS_l, isS_i, isS_n, neD_s, Kd.inj, Mk.inj, Lk.inj, s_km, s_mk, List.length_append, L_c, L_i, L_n, L_a, L_cc, L_ic, L_ii, L_nc, L_ni, L_nn, L_ac, L_ai, L_an, L_aa, mL, lq])
  have ixk : ixN (Bl mv lt n i).length (k : Int) = some k := by
    rw [Bl_len]
    unfold ixN
    rw [if_pos (by omega), if_pos (by omega), Int.toNat_natCast]
  unfold sPutO
  simp only [mVar, mC, mMap, mMap2, lift_some, lift_none, bind_ok, bind_err, bind_bad, mCons, mNil, mT, asB_bool, asB, mAnd, mOr, mNot, andV_eq, orV_eq, mNotV, mIf, chain_eq, chK_b, mCall, sSeq, sNext, sIf, sRet, sRetN, sDrop, sAsg, sRaise, sFor, sApp, sOwn, setO, ownAt, mOwn1, mPop0, sFrz, frz, sAug, ex_ok, ex_err, ex_bad, then_nx, then_ret, then_brk, then_ct, then_err, optG_some, optG_none, tName, setD, tTupG, tsCons, tsNil, Option.bind_some, List.getElem?_cons_zero, List.getElem?_cons_succ, List.set_cons_zero, List.set_cons_succ, List.length_cons, List.length_nil, Bool.not_true, Bool.not_false, Bool.false_eq_true, if_true, if_false, reduceIte, List.map_cons, List.map_nil, List.cons_append, List.nil_append, List.replicate, Nat.reduceSub, Nat.reduceAdd, Nat.reduceEqDiff, Option.map_some, Option.map_none, outs, Int.reduceAdd, Int.reduceSub, Int.reduceBEq, Int.reduceLT, Int.reduceLE, decide_true, decide_false, beq_self_eq_true, cast_0, cast_1, cast_2, cast_3, cast_4, cast_5, isi_str, isi_tup, addD_i, addI_i, subD_i, leD_i, leD_s, ltD_i, ltD_s, gtD_i, geD_i, eqD_i, neD_i, eqD_b, neD_b, eqD_s, lenD_l, lenD_t, absD_i, intD_i, tupD_l, tupD_t, lstD_l, lstD_t, mkT_0, mkT_1, mkT_2, mkT_3, mkL_0, mkL_1, sized_0, sized_1, ix_0, ix_1, ix_2, isT_t, isT_s, isT_l, isT_i, isT_n, isS_s, isS_t, isS_l, isS_i, isS_n, neD_s, Kd.inj, Mk.inj, Lk.inj, s_km, s_mk, List.length_append, L_c, L_i, L_n, L_a, L_cc, L_ic, L_ii, L_nc, L_ni, L_nn, L_ac, L_ai, L_an, L_aa, mOwnL, node_ix (mv := mv) (lt := lt) hk, node_0, pr_0, pr_1, ixk]
  rw [← bs]
  rfl
theorem lg_6 {i t : Nat} {p : List Nat} {B : List D} {z2 z3 z5 z9 : Sl} (h9 : NO z9) (ht : t < n) (hn : n ≤ 100) (hp : p.length ≤ 90) :
    ∃ z9', NO z9' ∧ b_law_grown_6 [.dat (wD mv lt n), .own (nodes mv lt n), z2, z3, .own B, z5, .un, .dat (plD p), .dat (nat t), z9] = .nx (if 0 ≤ ab mv t then [.dat (wD mv lt n), .own (nodes mv lt n), z2, z3, .own B, z5, .un, .dat (plD (el mv t :: p)), .dat (nat (ab mv t).toNat), z9'] else [.dat (wD mv lt n), .own (nodes mv lt n), z2, z3, .own B, z5, .un, .dat (plD p), .dat (nat t), z9']) := by
  have ni := node_ix (mv := mv) (lt := lt) ht
  by_cases h : 0 ≤ ab mv t
  · refine ⟨.dat (nat (el mv t)), trivial, ?_⟩
    rw [if_pos h]
    have lc := lc_filter (vs := [6]) (t := tName 6) (test := t_law_grown_5) (elt := mVar 6) (s := [.dat (wD mv lt n), .own (nodes mv lt n), z2, z3, .own B, z5, .un, .dat (plD p), .dat (nat t), z9]) nat nat (fun j => ab mv j == ab mv t) (xs := List.range t) (fun j hj => by
      have hj : j < n := by have := List.mem_range.mp hj; omega
      refine ⟨[.dat (wD mv lt n), .own (nodes mv lt n), z2, z3, .own B, z5, .dat (nat j), .dat (plD p), .dat (nat t), z9], rfl, ?_, fun _ => rfl, rfl⟩
      unfold t_law_grown_5
      simp only [mVar, mC, mMap, mMap2, lift_some, lift_none, bind_ok, bind_err, bind_bad, mCons, mNil, mT, asB_bool, asB, mAnd, mOr, mNot, andV_eq, orV_eq, mNotV, mIf, chain_eq, chK_b, mCall, sSeq, sNext, sIf, sRet, sRetN, sDrop, sAsg, sRaise, sFor, sApp, sOwn, setO, ownAt, mOwn1, mPop0, sFrz, frz, sAug, ex_ok, ex_err, ex_bad, then_nx, then_ret, then_brk, then_ct, then_err, optG_some, optG_none, tName, setD, tTupG, tsCons, tsNil, Option.bind_some, List.getElem?_cons_zero, List.getElem?_cons_succ, List.set_cons_zero, List.set_cons_succ, List.length_cons, List.length_nil, Bool.not_true, Bool.not_false, Bool.false_eq_true, if_true, if_false, reduceIte, List.map_cons, List.map_nil, List.cons_append, List.nil_append, List.replicate, Nat.reduceSub, Nat.reduceAdd, Nat.reduceEqDiff, Option.map_some, Option.map_none, outs, Int.reduceAdd, Int.reduceSub, Int.reduceBEq, Int.reduceLT, Int.reduceLE, decide_true, decide_false, beq_self_eq_true, cast_0, cast_1, cast_2, cast_3, cast_4, cast_5, isi_str, isi_tup, addD_i, addI_i, subD_i, leD_i, leD_s, ltD_i, ltD_s, gtD_i, geD_i, eqD_i, neD_i, eqD_b, neD_b, eqD_s, lenD_l, lenD_t, absD_i, intD_i, tupD_l, tupD_t, lstD_l, lstD_t, mkT_0, mkT_1, mkT_2, mkT_3, mkL_0, mkL_1, sized_0, sized_1, ix_0, ix_1, ix_2, isT_t, isT_s, isT_l, isT_i, isT_n, isS_s, isS_t, isS_l, isS_i, isS_n, neD_s, Kd.inj, Mk.inj, Lk.inj, s_km, s_mk, List.length_append, L_c, L_i, L_n, L_a, L_cc, L_ic, L_ii, L_nc, L_ni, L_nn, L_ac, L_ai, L_an, L_aa, mOwnL, node_ix (mv := mv) (lt := lt) hj, ni, node_1])
    have hf : ((List.range t).filter (fun j => ab mv j == ab mv t)).length ≤ 100 := by
      have := List.length_filter_le (fun j => ab mv j == ab mv t) (List.range t)
      rw [List.length_range] at this
      omega
    have lq : mLc [6] (mMap (mCons (mVar 8) mNil) rng1) (tName 6) t_law_grown_5 (mVar 6) [.dat (wD mv lt n), .own (nodes mv lt n), z2, z3, .own B, z5, .un, .dat (plD p), .dat (nat t), z9] = .ok (((List.range t).filter (fun j => ab mv j == ab mv t)).map nat) [.dat (wD mv lt n), .own (nodes mv lt n), z2, z3, .own B, z5, .un, .dat (plD p), .dat (nat t), z9] :=
      mLc_ok (s1 := [.dat (wD mv lt n), .own (nodes mv lt n), z2, z3, .own B, z5, .un, .dat (plD p), .dat (nat t), z9]) (ds := (List.range t).map nat) (by simp only [mVar, mC, mMap, mMap2, lift_some, lift_none, bind_ok, bind_err, bind_bad, mCons, mNil, mT, asB_bool, asB, mAnd, mOr, mNot, andV_eq, orV_eq, mNotV, mIf, chain_eq, chK_b, mCall, sSeq, sNext, sIf, sRet, sRetN, sDrop, sAsg, sRaise, sFor, sApp, sOwn, setO, ownAt, mOwn1, mPop0, sFrz, frz, sAug, ex_ok, ex_err, ex_bad, then_nx, then_ret, then_brk, then_ct, then_err, optG_some, optG_none, tName, setD, tTupG, tsCons, tsNil, Option.bind_some, List.getElem?_cons_zero, List.getElem?_cons_succ, List.set_cons_zero, List.set_cons_succ, List.length_cons, List.length_nil, Bool.not_true, Bool.not_false, Bool.false_eq_true, if_true, if_false, reduceIte, List.map_cons, List.map_nil, List.cons_append, List.nil_append, List.replicate, Nat.reduceSub, Nat.reduceAdd, Nat.reduceEqDiff, Option.map_some, Option.map_none, outs, Int.reduceAdd, Int.reduceSub, Int.reduceBEq, Int.reduceLT, Int.reduceLE, decide_true, decide_false, beq_self_eq_true, cast_0, cast_1, cast_2, cast_3, cast_4, cast_5, isi_str, isi_tup, addD_i, addI_i, subD_i, leD_i, leD_s, ltD_i, ltD_s, gtD_i, geD_i, eqD_i, neD_i, eqD_b, neD_b, eqD_s, lenD_l, lenD_t, absD_i, intD_i, tupD_l, tupD_t, lstD_l, lstD_t, mkT_0, mkT_1, mkT_2, mkT_3, mkL_0, mkL_1, sized_0, sized_1, ix_0, ix_1, ix_2, isT_t, isT_s, isT_l, isT_i, isT_n, isS_s, isS_t, isS_l, isS_i, isS_n, neD_s, Kd.inj, Mk.inj, Lk.inj, s_km, s_mk, List.length_append, L_c, L_i, L_n, L_a, L_cc, L_ic, L_ii, L_nc, L_ni, L_nn, L_ac, L_ai, L_an, L_aa]; rw [rng_nat (by omega)]; rfl) rfl lc (by rw [List.length_map]; exact small_line (by omega)) rfl
    have tc := tup_cons (x := el mv t) (p := p) (by omega)
    have e3 : ab mv t = (((ab mv t).toNat : Nat) : Int) := by omega
    have yes : (mT (mMap2 (mMap2 (mOwnL 1 (mVar 8) ixD) (mC (.int 1)) ixD) (mC (.int 0)) geD)) [.dat (wD mv lt n), .own (nodes mv lt n), z2, z3, .own B, z5, .un, .dat (plD p), .dat (nat t), z9] = .ok true [.dat (wD mv lt n), .own (nodes mv lt n), z2, z3, .own B, z5, .un, .dat (plD p), .dat (nat t), z9] := by
      simp only [mVar, mC, mMap, mMap2, lift_some, lift_none, bind_ok, bind_err, bind_bad, mCons, mNil, mT, asB_bool, asB, mAnd, mOr, mNot, andV_eq, orV_eq, mNotV, mIf, chain_eq, chK_b, mCall, sSeq, sNext, sIf, sRet, sRetN, sDrop, sAsg, sRaise, sFor, sApp, sOwn, setO, ownAt, mOwn1, mPop0, sFrz, frz, sAug, ex_ok, ex_err, ex_bad, then_nx, then_ret, then_brk, then_ct, then_err, optG_some, optG_none, tName, setD, tTupG, tsCons, tsNil, Option.bind_some, List.getElem?_cons_zero, List.getElem?_cons_succ, List.set_cons_zero, List.set_cons_succ, List.length_cons, List.length_nil, Bool.not_true, Bool.not_false, Bool.false_eq_true, if_true, if_false, reduceIte, List.map_cons, List.map_nil, List.cons_append, List.nil_append, List.replicate, Nat.reduceSub, Nat.reduceAdd, Nat.reduceEqDiff, Option.map_some, Option.map_none, outs, Int.reduceAdd, Int.reduceSub, Int.reduceBEq, Int.reduceLT, Int.reduceLE, decide_true, decide_false, beq_self_eq_true, cast_0, cast_1, cast_2, cast_3, cast_4, cast_5, isi_str, isi_tup, addD_i, addI_i, subD_i, leD_i, leD_s, ltD_i, ltD_s, gtD_i, geD_i, eqD_i, neD_i, eqD_b, neD_b, eqD_s, lenD_l, lenD_t, absD_i, intD_i, tupD_l, tupD_t, lstD_l, lstD_t, mkT_0, mkT_1, mkT_2, mkT_3, mkL_0, mkL_1, sized_0, sized_1, ix_0, ix_1, ix_2, isT_t, isT_s, isT_l, isT_i, isT_n, isS_s, isS_t, isS_l, isS_i, isS_n, neD_s, Kd.inj, Mk.inj, Lk.inj, s_km, s_mk, List.length_append, L_c, L_i, L_n, L_a, L_cc, L_ic, L_ii, L_nc, L_ni, L_nn, L_ac, L_ai, L_an, L_aa, mOwnL, ni, node_1, h]
    unfold b_law_grown_6
    rw [if_yes yes]
    refine (seq_nx (s1 := [.dat (wD mv lt n), .own (nodes mv lt n), z2, z3, .own B, z5, .un, .dat (plD p), .dat (nat t), .dat (nat (el mv t))]) ?_).trans ?_
    · have hlen : ((((List.range t).filter (fun j => ab mv j == ab mv t)).map nat).length : Int) = ((el mv t : Nat) : Int) := by rw [List.length_map]; rfl
      cases z9 <;> first | exact h9.elim | (simp only [mVar, mC, mMap, mMap2, lift_some, lift_none, bind_ok, bind_err, bind_bad, mCons, mNil, mT, asB_bool, asB, mAnd, mOr, mNot, andV_eq, orV_eq, mNotV, mIf, chain_eq, chK_b, mCall, sSeq, sNext, sIf, sRet, sRetN, sDrop, sAsg, sRaise, sFor, sApp, sOwn, setO, ownAt, mOwn1, mPop0, sFrz, frz, sAug, ex_ok, ex_err, ex_bad, then_nx, then_ret, then_brk, then_ct, then_err, optG_some, optG_none, tName, setD, tTupG, tsCons, tsNil, Option.bind_some, List.getElem?_cons_zero, List.getElem?_cons_succ, List.set_cons_zero, List.set_cons_succ, List.length_cons, List.length_nil, Bool.not_true, Bool.not_false, Bool.false_eq_true, if_true, if_false, reduceIte, List.map_cons, List.map_nil, List.cons_append, List.nil_append, List.replicate, Nat.reduceSub, Nat.reduceAdd, Nat.reduceEqDiff, Option.map_some, Option.map_none, outs, Int.reduceAdd, Int.reduceSub, Int.reduceBEq, Int.reduceLT, Int.reduceLE, decide_true, decide_false, beq_self_eq_true, cast_0, cast_1, cast_2, cast_3, cast_4, cast_5, isi_str, isi_tup, addD_i, addI_i, subD_i, leD_i, leD_s, ltD_i, ltD_s, gtD_i, geD_i, eqD_i, neD_i, eqD_b, neD_b, eqD_s, lenD_l, lenD_t, absD_i, intD_i, tupD_l, tupD_t, lstD_l, lstD_t, mkT_0, mkT_1, mkT_2, mkT_3, mkL_0, mkL_1, sized_0, sized_1, ix_0, ix_1, ix_2, isT_t, isT_s, isT_l, isT_i, isT_n, isS_s, isS_t, isS_l, isS_i, isS_n, neD_s, Kd.inj, Mk.inj, Lk.inj, s_km, s_mk, List.length_append, L_c, L_i, L_n, L_a, L_cc, L_ic, L_ii, L_nc, L_ni, L_nn, L_ac, L_ai, L_an, L_aa, mL, lq]; rw [hlen])
    refine (seq_nx (s1 := [.dat (wD mv lt n), .own (nodes mv lt n), z2, z3, .own B, z5, .un, .dat (plD (el mv t :: p)), .dat (nat t), .dat (nat (el mv t))]) ?_).trans ?_
    · simp only [mVar, mC, mMap, mMap2, lift_some, lift_none, bind_ok, bind_err, bind_bad, mCons, mNil, mT, asB_bool, asB, mAnd, mOr, mNot, andV_eq, orV_eq, mNotV, mIf, chain_eq, chK_b, mCall, sSeq, sNext, sIf, sRet, sRetN, sDrop, sAsg, sRaise, sFor, sApp, sOwn, setO, ownAt, mOwn1, mPop0, sFrz, frz, sAug, ex_ok, ex_err, ex_bad, then_nx, then_ret, then_brk, then_ct, then_err, optG_some, optG_none, tName, setD, tTupG, tsCons, tsNil, Option.bind_some, List.getElem?_cons_zero, List.getElem?_cons_succ, List.set_cons_zero, List.set_cons_succ, List.length_cons, List.length_nil, Bool.not_true, Bool.not_false, Bool.false_eq_true, if_true, if_false, reduceIte, List.map_cons, List.map_nil, List.cons_append, List.nil_append, List.replicate, Nat.reduceSub, Nat.reduceAdd, Nat.reduceEqDiff, Option.map_some, Option.map_none, outs, Int.reduceAdd, Int.reduceSub, Int.reduceBEq, Int.reduceLT, Int.reduceLE, decide_true, decide_false, beq_self_eq_true, cast_0, cast_1, cast_2, cast_3, cast_4, cast_5, isi_str, isi_tup, addD_i, addI_i, subD_i, leD_i, leD_s, ltD_i, ltD_s, gtD_i, geD_i, eqD_i, neD_i, eqD_b, neD_b, eqD_s, lenD_l, lenD_t, absD_i, intD_i, tupD_l, tupD_t, lstD_l, lstD_t, mkT_0, mkT_1, mkT_2, mkT_3, mkL_0, mkL_1, sized_0, sized_1, ix_0, ix_1, ix_2, isT_t, isT_s, isT_l, isT_i, isT_n, isS_s, isS_t, isS_l, isS_i, isS_n, neD_s, Kd.inj, Mk.inj, Lk.inj, s_km, s_mk, List.length_append, L_c, L_i, L_n, L_a, L_cc, L_ic, L_ii, L_nc, L_ni, L_nn, L_ac, L_ai, L_an, L_aa, tc]
    · simp only [mVar, mC, mMap, mMap2, lift_some, lift_none, bind_ok, bind_err, bind_bad, mCons, mNil, mT, asB_bool, asB, mAnd, mOr, mNot, andV_eq, orV_eq, mNotV, mIf, chain_eq, chK_b, mCall, sSeq, sNext, sIf, sRet, sRetN, sDrop, sAsg, sRaise, sFor, sApp, sOwn, setO, ownAt, mOwn1, mPop0, sFrz, frz, sAug, ex_ok, ex_err, ex_bad, then_nx, then_ret, then_brk, then_ct, then_err, optG_some, optG_none, tName, setD, tTupG, tsCons, tsNil, Option.bind_some, List.getElem?_cons_zero, List.getElem?_cons_succ, List.set_cons_zero, List.set_cons_succ, List.length_cons, List.length_nil, Bool.not_true, Bool.not_false, Bool.false_eq_true, if_true, if_false, reduceIte, List.map_cons, List.map_nil, List.cons_append, List.nil_append, List.replicate, Nat.reduceSub, Nat.reduceAdd, Nat.reduceEqDiff, Option.map_some, Option.map_none, outs, Int.reduceAdd, Int.reduceSub, Int.reduceBEq, Int.reduceLT, Int.reduceLE, decide_true, decide_false, beq_self_eq_true, cast_0, cast_1, cast_2, cast_3, cast_4, cast_5, isi_str, isi_tup, addD_i, addI_i, subD_i, leD_i, leD_s, ltD_i, ltD_s, gtD_i, geD_i, eqD_i, neD_i, eqD_b, neD_b, eqD_s, lenD_l, lenD_t, absD_i, intD_i, tupD_l, tupD_t, lstD_l, lstD_t, mkT_0, mkT_1, mkT_2, mkT_3, mkL_0, mkL_1, sized_0, sized_1, ix_0, ix_1, ix_2, isT_t, isT_s, isT_l, isT_i, isT_n, isS_s, isS_t, isS_l, isS_i, isS_n, neD_s, Kd.inj, Mk.inj, Lk.inj, s_km, s_mk, List.length_append, L_c, L_i, L_n, L_a, L_cc, L_ic, L_ii, L_nc, L_ni, L_nn, L_ac, L_ai, L_an, L_aa, mOwnL, ni, node_1]
      rw [show nat (ab mv t).toNat = .int (ab mv t) from congrArg PyData.int e3.symm]
  · refine ⟨z9, h9, ?_⟩
    rw [if_neg h]
    unfold b_law_grown_6
    simp only [mVar, mC, mMap, mMap2, lift_some, lift_none, bind_ok, bind_err, bind_bad, mCons, mNil, mT, asB_bool, asB, mAnd, mOr, mNot, andV_eq, orV_eq, mNotV, mIf, chain_eq, chK_b, mCall, sSeq, sNext, sIf, sRet, sRetN, sDrop, sAsg, sRaise, sFor, sApp, sOwn, setO, ownAt, mOwn1, mPop0, sFrz, frz, sAug, ex_ok, ex_err, ex_bad, then_nx, then_ret, then_brk, then_ct, then_err, optG_some, optG_none, tName, setD, tTupG, tsCons, tsNil, Option.bind_some, List.getElem?_cons_zero, List.getElem?_cons_succ, List.set_cons_zero, List.set_cons_succ, List.length_cons, List.length_nil, Bool.not_true, Bool.not_false, Bool.false_eq_true, if_true, if_false, reduceIte, List.map_cons, List.map_nil, List.cons_append, List.nil_append, List.replicate, Nat.reduceSub, Nat.reduceAdd, Nat.reduceEqDiff, Option.map_some, Option.map_none, outs, Int.reduceAdd, Int.reduceSub, Int.reduceBEq, Int.reduceLT, Int.reduceLE, decide_true, decide_false, beq_self_eq_true, cast_0, cast_1, cast_2, cast_3, cast_4, cast_5, isi_str, isi_tup, addD_i, addI_i, subD_i, leD_i, leD_s, ltD_i, ltD_s, gtD_i, geD_i, eqD_i, neD_i, eqD_b, neD_b, eqD_s, lenD_l, lenD_t, absD_i, intD_i, tupD_l, tupD_t, lstD_l, lstD_t, mkT_0, mkT_1, mkT_2, mkT_3, mkL_0, mkL_1, sized_0, sized_1, ix_0, ix_1, ix_2, isT_t, isT_s, isT_l, isT_i, isT_n, isS_s, isS_t, isS_l, isS_i, isS_n, neD_s, Kd.inj, Mk.inj, Lk.inj, s_km, s_mk, List.length_append, L_c, L_i, L_n, L_a, L_cc, L_ic, L_ii, L_nc, L_ni, L_nn, L_ac, L_ai, L_an, L_aa, mOwnL, ni, node_1, h]
theorem law_grown_eq (h0 : 0 < n) (hn : n ≤ 80) (h1 : 2 ≤ n → mv 1 = true) : F_law_grown [.dat (wD mv lt n)] = .ok (.tuple [(dr mv lt (n - 1) 0).1, plD (pl mv (n - 1) 0)]) [.dat (wD mv lt n)] := by
  have rn : rng1 [nat n] = some ((List.range n).map nat) := rng_nat (by omega)
  obtain ⟨s', q1, z2, z3, k2, k3, e⟩ := for_list (t := tName 2) (body := b_law_grown_1) nat (fun i s => ∃ z2 z3, NO z2 ∧ NO z3 ∧ s = [.dat (wD mv lt n), .own (nodes mv lt i), z2, z3, .un, .un, .un, .un, .un, .un]) (List.range n) 0
    [.dat (wD mv lt n), .own [], .un, .un, .un, .un, .un, .un, .un, .un] ⟨.un, .un, trivial, trivial, rfl⟩ (fun k x s hx => by
      obtain ⟨hk, rfl⟩ := range_get hx
      rintro ⟨z2, z3, h2, h3, rfl⟩
      rw [Nat.zero_add] at *
      exact ⟨_, _, set_no h2 rfl, lg_1 (z2 := z2) h2 h3 hk (by omega), .dat (nat x), .dat (.int (ab mv x)), trivial, trivial, rfl⟩)
  rw [Nat.zero_add, List.length_range] at e
  subst e
  have lc0 : ∀ z2 : Sl, NO z2 → mLc [2] (mMap (mCons (mMap (mCons (mVar 0) mNil) lenD) mNil) rng1) (tName 2) mYes (mC .none) [.dat (wD mv lt n), .own (nodes mv lt n), z2, z3, .un, .un, .un, .un, .un, .un] = .ok (Bl mv lt n 0) [.dat (wD mv lt n), .own (nodes mv lt n), z2, z3, .un, .un, .un, .un, .un, .un] := fun z2 k2 => by
    have lc := lc_typed (vs := [2]) (t := tName 2) (elt := mC .none) (s := [.dat (wD mv lt n), .own (nodes mv lt n), .un, z3, .un, .un, .un, .un, .un, .un]) nat (fun _ => .none) (xs := List.range n) (fun j _ => ⟨[.dat (wD mv lt n), .own (nodes mv lt n), .dat (nat j), z3, .un, .un, .un, .un, .un, .un], rfl, rfl, rfl⟩)
    have e0 : (List.range n).map (fun _ => PyData.none) = Bl mv lt n 0 := by
      unfold Bl
      refine List.map_congr_left fun j hj => ?_
      have := List.mem_range.mp hj
      rw [if_neg (by omega)]
    rw [e0] at lc
    refine mLc_ok (s1 := [.dat (wD mv lt n), .own (nodes mv lt n), z2, z3, .un, .un, .un, .un, .un, .un]) (ds := (List.range n).map nat) (by simp only [mVar, mC, mMap, mMap2, lift_some, lift_none, bind_ok, bind_err, bind_bad, mCons, mNil, mT, asB_bool, asB, mAnd, mOr, mNot, andV_eq, orV_eq, mNotV, mIf, chain_eq, chK_b, mCall, sSeq, sNext, sIf, sRet, sRetN, sDrop, sAsg, sRaise, sFor, sApp, sOwn, setO, ownAt, mOwn1, mPop0, sFrz, frz, sAug, ex_ok, ex_err, ex_bad, then_nx, then_ret, then_brk, then_ct, then_err, optG_some, optG_none, tName, setD, tTupG, tsCons, tsNil, Option.bind_some, List.getElem?_cons_zero, List.getElem?_cons_succ, List.set_cons_zero, List.set_cons_succ, List.length_cons, List.length_nil, Bool.not_true, Bool.not_false, Bool.false_eq_true, if_true, if_false, reduceIte, List.map_cons, List.map_nil, List.cons_append, List.nil_append, List.replicate, Nat.reduceSub, Nat.reduceAdd, Nat.reduceEqDiff, Option.map_some, Option.map_none, outs, Int.reduceAdd, Int.reduceSub, Int.reduceBEq, Int.reduceLT, Int.reduceLE, decide_true, decide_false, beq_self_eq_true, cast_0, cast_1, cast_2, cast_3, cast_4, cast_5, isi_str, isi_tup, addD_i, addI_i, subD_i, leD_i, leD_s, ltD_i, ltD_s, gtD_i, geD_i, eqD_i, neD_i, eqD_b, neD_b, eqD_s, lenD_l, lenD_t, absD_i, intD_i, tupD_l, tupD_t, lstD_l, lstD_t, mkT_0, mkT_1, mkT_2, mkT_3, mkL_0, mkL_1, sized_0, sized_1, ix_0, ix_1, ix_2, isT_t, isT_s, isT_l, isT_i, isT_n, isS_s, isS_t, isS_l, isS_i, isS_n, neD_s, Kd.inj, Mk.inj, Lk.inj, s_km, s_mk, List.length_append, L_c, L_i, L_n, L_a, L_cc, L_ic, L_ii, L_nc, L_ni, L_nn, L_ac, L_ai, L_an, L_aa, w_len, rn]) ?_ (s2 := [.dat (wD mv lt n), .own (nodes mv lt n), .un, z3, .un, .un, .un, .un, .un, .un]) lc (by rw [Bl_len]; exact small_line (by omega)) rfl
    cases z2 <;> first | rfl | exact k2.elim
  obtain ⟨s', q2, y2, z5, j2, j5, e⟩ := for_list (t := tName 2) (body := b_law_grown_4) nat (fun i s => ∃ z2 z5, NO z2 ∧ NO z5 ∧ s = [.dat (wD mv lt n), .own (nodes mv lt n), z2, z3, .own (Bl mv lt n i), z5, .un, .un, .un, .un]) ((List.range n).map fun i => n - 1 - i) 0
    [.dat (wD mv lt n), .own (nodes mv lt n), z2, z3, .own (Bl mv lt n 0), .un, .un, .un, .un, .un] ⟨z2, .un, k2, trivial, rfl⟩ (fun k x s hx => by
      rw [List.getElem?_map] at hx
      obtain ⟨y, hy, rfl⟩ := Option.map_eq_some_iff.mp hx
      obtain ⟨hk, rfl⟩ := range_get hy
      rintro ⟨z2, z5, h2, h5, rfl⟩
      rw [Nat.zero_add] at *
      exact ⟨_, _, set_no h2 rfl, lg_4 h5 hk (by omega), _, _, no_dat _, no_dat _, rfl⟩)
  rw [Nat.zero_add, List.length_map, List.length_range] at e
  subst e
  obtain ⟨s', q3, t, p, w2, z9, e1, e2, e3, e4, j9, m2, e⟩ := for_list (t := tName 2) (body := b_law_grown_6) nat (fun i s => ∃ t p z2 z9, pth mv n t ++ p = pth mv n (n - 1) ∧ t < n ∧ (t + i ≤ n - 1 ∨ ab mv t < 0) ∧ p.length ≤ i ∧ NO z9 ∧ NO z2 ∧ s = [.dat (wD mv lt n), .own (nodes mv lt n), z2, z3, .own (Bl mv lt n n), z5, .un, .dat (plD p), .dat (nat t), z9]) (List.range n) 0
    [.dat (wD mv lt n), .own (nodes mv lt n), y2, z3, .own (Bl mv lt n n), z5, .un, .dat (plD []), .dat (nat (n - 1)), .un] ⟨n - 1, [], y2, .un, List.append_nil _, by omega, .inl (by omega), Nat.le_refl _, trivial, j2, rfl⟩ (fun k x s hx => by
      obtain ⟨hk, rfl⟩ := range_get hx
      rintro ⟨t, p, z2, z9, a1, a2, a3, a4, h9, h2, rfl⟩
      rw [Nat.zero_add] at *
      obtain ⟨z9', n9, bq⟩ := lg_6 (mv := mv) (lt := lt) (n := n) (i := 0) (t := t) (p := p) (B := Bl mv lt n n) (z2 := .dat (nat x)) (z3 := z3) (z5 := z5) h9 a2 (by omega) (by omega)
      by_cases h : 0 ≤ ab mv t
      · rw [if_pos h] at bq
        have al := ab_lt (mv := mv) t
        refine ⟨_, _, set_no h2 rfl, bq, (ab mv t).toNat, el mv t :: p, .dat (nat x), z9', ?_, by omega, .inl (by omega), by rw [List.length_cons]; omega, n9, trivial, rfl⟩
        rw [← a1, pth_step a2 h, List.append_assoc]
        rfl
      · rw [if_neg h] at bq
        exact ⟨_, _, set_no h2 rfl, bq, t, p, .dat (nat x), z9', a1, a2, .inr (by omega), by omega, n9, trivial, rfl⟩)
  rw [Nat.zero_add, List.length_range] at e3
  subst e
  have e5 : ab mv t < 0 := by omega
  have e6 : pth mv n t = [] := by
    cases n with
    | zero => rfl
    | succ n => rw [pth, if_neg (by omega)]
  rw [e6, List.nil_append, pth_eq h0 h1] at e1
  subst e1
  have s1 : subD (nat n) (.int 1) = some (nat (n - 1)) := by
    rw [subD_i]
    congr 2
    omega
  have r3 : rng3 [nat (n - 1), .int (-1), .int (-1)] = some (((List.range n).map fun i => n - 1 - i).map nat) := by
    show (if btw (-(2 ^ 62) - 1) (2 ^ 62) ((n - 1 : Nat) : Int) = true ∧ btw (-(2 ^ 62) - 1) (2 ^ 62) (-1) = true ∧ ((-1 : Int) == -1) = true then some (DL.down ((n - 1 : Nat) : Int) (((n - 1 : Nat) : Int) - (-1)).toNat) else none) = _
    rw [if_pos ⟨btw_iff.mpr (by omega), btw_iff.mpr (by omega), rfl⟩, show (((n - 1 : Nat) : Int) - (-1)).toNat = n by omega]
    unfold DL.down
    rw [List.map_map]
    congr 1
    refine List.map_congr_left fun i hi => ?_
    have := List.mem_range.mp hi
    show PyData.int (((n - 1 : Nat) : Int) + (i : Int) * (-1)) = .int ((n - 1 - i : Nat) : Int)
    congr 1
    omega
  have b0 : ixD (.list (Bl mv lt n n)) (.int 0) = some (dr mv lt (n - 1) 0).1 := Bl_ix (mv := mv) (lt := lt) (i := n) (j := 0) h0 (by omega)
  refine run_of (st := [.dat (wD mv lt n), .un, .un, .un, .un, .un, .un, .un, .un, .un]) ⟨[.dat (wD mv lt n), .own (nodes mv lt n), w2, z3, .own (Bl mv lt n n), z5, .un, .dat (plD (pl mv (n - 1) 0)), .dat (nat t), z9], ?_, rfl⟩
  unfold g_law_grown
  refine (seq_nx (s1 := [.dat (wD mv lt n), .own [], .un, .un, .un, .un, .un, .un, .un, .un]) rfl).trans ?_
  refine (seq_nx (sfor_nx ?_ q1)).trans ?_
  · simp only [mVar, mC, mMap, mMap2, lift_some, lift_none, bind_ok, bind_err, bind_bad, mCons, mNil, mT, asB_bool, asB, mAnd, mOr, mNot, andV_eq, orV_eq, mNotV, mIf, chain_eq, chK_b, mCall, sSeq, sNext, sIf, sRet, sRetN, sDrop, sAsg, sRaise, sFor, sApp, sOwn, setO, ownAt, mOwn1, mPop0, sFrz, frz, sAug, ex_ok, ex_err, ex_bad, then_nx, then_ret, then_brk, then_ct, then_err, optG_some, optG_none, tName, setD, tTupG, tsCons, tsNil, Option.bind_some, List.getElem?_cons_zero, List.getElem?_cons_succ, List.set_cons_zero, List.set_cons_succ, List.length_cons, List.length_nil, Bool.not_true, Bool.not_false, Bool.false_eq_true, if_true, if_false, reduceIte, List.map_cons, List.map_nil, List.cons_append, List.nil_append, List.replicate, Nat.reduceSub, Nat.reduceAdd, Nat.reduceEqDiff, Option.map_some, Option.map_none, outs, Int.reduceAdd, Int.reduceSub, Int.reduceBEq, Int.reduceLT, Int.reduceLE, decide_true, decide_false, beq_self_eq_true, cast_0, cast_1, cast_2, cast_3, cast_4, cast_5, isi_str, isi_tup, addD_i, addI_i, subD_i, leD_i, leD_s, ltD_i, ltD_s, gtD_i, geD_i, eqD_i, neD_i, eqD_b, neD_b, eqD_s, lenD_l, lenD_t, absD_i, intD_i, tupD_l, tupD_t, lstD_l, lstD_t, mkT_0, mkT_1, mkT_2, mkT_3, mkL_0, mkL_1, sized_0, sized_1, ix_0, ix_1, ix_2, isT_t, isT_s, isT_l, isT_i, isT_n, isS_s, isS_t, isS_l, isS_i, isS_n, neD_s, Kd.inj, Mk.inj, Lk.inj, s_km, s_mk, List.length_append, L_c, L_i, L_n, L_a, L_cc, L_ic, L_ii, L_nc, L_ni, L_nn, L_ac, L_ai, L_an, L_aa, w_len, rn]
  refine (seq_nx (s1 := [.dat (wD mv lt n), .own (nodes mv lt n), z2, z3, .own (Bl mv lt n 0), .un, .un, .un, .un, .un]) ?_).trans ?_
  · simp only [mVar, mC, mMap, mMap2, lift_some, lift_none, bind_ok, bind_err, bind_bad, mCons, mNil, mT, asB_bool, asB, mAnd, mOr, mNot, andV_eq, orV_eq, mNotV, mIf, chain_eq, chK_b, mCall, sSeq, sNext, sIf, sRet, sRetN, sDrop, sAsg, sRaise, sFor, sApp, sOwn, setO, ownAt, mOwn1, mPop0, sFrz, frz, sAug, ex_ok, ex_err, ex_bad, then_nx, then_ret, then_brk, then_ct, then_err, optG_some, optG_none, tName, setD, tTupG, tsCons, tsNil, Option.bind_some, List.getElem?_cons_zero, List.getElem?_cons_succ, List.set_cons_zero, List.set_cons_succ, List.length_cons, List.length_nil, Bool.not_true, Bool.not_false, Bool.false_eq_true, if_true, if_false, reduceIte, List.map_cons, List.map_nil, List.cons_append, List.nil_append, List.replicate, Nat.reduceSub, Nat.reduceAdd, Nat.reduceEqDiff, Option.map_some, Option.map_none, outs, Int.reduceAdd, Int.reduceSub, Int.reduceBEq, Int.reduceLT, Int.reduceLE, decide_true, decide_false, beq_self_eq_true, cast_0, cast_1, cast_2, cast_3, cast_4, cast_5, isi_str, isi_tup, addD_i, addI_i, subD_i, leD_i, leD_s, ltD_i, ltD_s, gtD_i, geD_i, eqD_i, neD_i, eqD_b, neD_b, eqD_s, lenD_l, lenD_t, absD_i, intD_i, tupD_l, tupD_t, lstD_l, lstD_t, mkT_0, mkT_1, mkT_2, mkT_3, mkL_0, mkL_1, sized_0, sized_1, ix_0, ix_1, ix_2, isT_t, isT_s, isT_l, isT_i, isT_n, isS_s, isS_t, isS_l, isS_i, isS_n, neD_s, Kd.inj, Mk.inj, Lk.inj, s_km, s_mk, List.length_append, L_c, L_i, L_n, L_a, L_cc, L_ic, L_ii, L_nc, L_ni, L_nn, L_ac, L_ai, L_an, L_aa, lc0 z2 k2]
  refine (seq_nx (sfor_nx ?_ q2)).trans ?_
  · simp only [mVar, mC, mMap, mMap2, lift_some, lift_none, bind_ok, bind_err, bind_bad, mCons, mNil, mT, asB_bool, asB, mAnd, mOr, mNot, andV_eq, orV_eq, mNotV, mIf, chain_eq, chK_b, mCall, sSeq, sNext, sIf, sRet, sRetN, sDrop, sAsg, sRaise, sFor, sApp, sOwn, setO, ownAt, mOwn1, mPop0, sFrz, frz, sAug, ex_ok, ex_err, ex_bad, then_nx, then_ret, then_brk, then_ct, then_err, optG_some, optG_none, tName, setD, tTupG, tsCons, tsNil, Option.bind_some, List.getElem?_cons_zero, List.getElem?_cons_succ, List.set_cons_zero, List.set_cons_succ, List.length_cons, List.length_nil, Bool.not_true, Bool.not_false, Bool.false_eq_true, if_true, if_false, reduceIte, List.map_cons, List.map_nil, List.cons_append, List.nil_append, List.replicate, Nat.reduceSub, Nat.reduceAdd, Nat.reduceEqDiff, Option.map_some, Option.map_none, outs, Int.reduceAdd, Int.reduceSub, Int.reduceBEq, Int.reduceLT, Int.reduceLE, decide_true, decide_false, beq_self_eq_true, cast_0, cast_1, cast_2, cast_3, cast_4, cast_5, isi_str, isi_tup, addD_i, addI_i, subD_i, leD_i, leD_s, ltD_i, ltD_s, gtD_i, geD_i, eqD_i, neD_i, eqD_b, neD_b, eqD_s, lenD_l, lenD_t, absD_i, intD_i, tupD_l, tupD_t, lstD_l, lstD_t, mkT_0, mkT_1, mkT_2, mkT_3, mkL_0, mkL_1, sized_0, sized_1, ix_0, ix_1, ix_2, isT_t, isT_s, isT_l, isT_i, isT_n, isS_s, isS_t, isS_l, isS_i, isS_n, neD_s, Kd.inj, Mk.inj, Lk.inj, s_km, s_mk, List.length_append, L_c, L_i, L_n, L_a, L_cc, L_ic, L_ii, L_nc, L_ni, L_nn, L_ac, L_ai, L_an, L_aa, w_len, s1, negD_i, r3]
  refine (seq_nx (s1 := [.dat (wD mv lt n), .own (nodes mv lt n), y2, z3, .own (Bl mv lt n n), z5, .un, .dat (plD []), .un, .un]) ?_).trans ?_
  · simp only [mVar, mC, mMap, mMap2, lift_some, lift_none, bind_ok, bind_err, bind_bad, mCons, mNil, mT, asB_bool, asB, mAnd, mOr, mNot, andV_eq, orV_eq, mNotV, mIf, chain_eq, chK_b, mCall, sSeq, sNext, sIf, sRet, sRetN, sDrop, sAsg, sRaise, sFor, sApp, sOwn, setO, ownAt, mOwn1, mPop0, sFrz, frz, sAug, ex_ok, ex_err, ex_bad, then_nx, then_ret, then_brk, then_ct, then_err, optG_some, optG_none, tName, setD, tTupG, tsCons, tsNil, Option.bind_some, List.getElem?_cons_zero, List.getElem?_cons_succ, List.set_cons_zero, List.set_cons_succ, List.length_cons, List.length_nil, Bool.not_true, Bool.not_false, Bool.false_eq_true, if_true, if_false, reduceIte, List.map_cons, List.map_nil, List.cons_append, List.nil_append, List.replicate, Nat.reduceSub, Nat.reduceAdd, Nat.reduceEqDiff, Option.map_some, Option.map_none, outs, Int.reduceAdd, Int.reduceSub, Int.reduceBEq, Int.reduceLT, Int.reduceLE, decide_true, decide_false, beq_self_eq_true, cast_0, cast_1, cast_2, cast_3, cast_4, cast_5, isi_str, isi_tup, addD_i, addI_i, subD_i, leD_i, leD_s, ltD_i, ltD_s, gtD_i, geD_i, eqD_i, neD_i, eqD_b, neD_b, eqD_s, lenD_l, lenD_t, absD_i, intD_i, tupD_l, tupD_t, lstD_l, lstD_t, mkT_0, mkT_1, mkT_2, mkT_3, mkL_0, mkL_1, sized_0, sized_1, ix_0, ix_1, ix_2, isT_t, isT_s, isT_l, isT_i, isT_n, isS_s, isS_t, isS_l, isS_i, isS_n, neD_s, Kd.inj, Mk.inj, Lk.inj, s_km, s_mk, List.length_append, L_c, L_i, L_n, L_a, L_cc, L_ic, L_ii, L_nc, L_ni, L_nn, L_ac, L_ai, L_an, L_aa]
    rfl
  refine (seq_nx (s1 := [.dat (wD mv lt n), .own (nodes mv lt n), y2, z3, .own (Bl mv lt n n), z5, .un, .dat (plD []), .dat (nat (n - 1)), .un]) ?_).trans ?_
  · simp only [mVar, mC, mMap, mMap2, lift_some, lift_none, bind_ok, bind_err, bind_bad, mCons, mNil, mT, asB_bool, asB, mAnd, mOr, mNot, andV_eq, orV_eq, mNotV, mIf, chain_eq, chK_b, mCall, sSeq, sNext, sIf, sRet, sRetN, sDrop, sAsg, sRaise, sFor, sApp, sOwn, setO, ownAt, mOwn1, mPop0, sFrz, frz, sAug, ex_ok, ex_err, ex_bad, then_nx, then_ret, then_brk, then_ct, then_err, optG_some, optG_none, tName, setD, tTupG, tsCons, tsNil, Option.bind_some, List.getElem?_cons_zero, List.getElem?_cons_succ, List.set_cons_zero, List.set_cons_succ, List.length_cons, List.length_nil, Bool.not_true, Bool.not_false, Bool.false_eq_true, if_true, if_false, reduceIte, List.map_cons, List.map_nil, List.cons_append, List.nil_append, List.replicate, Nat.reduceSub, Nat.reduceAdd, Nat.reduceEqDiff, Option.map_some, Option.map_none, outs, Int.reduceAdd, Int.reduceSub, Int.reduceBEq, Int.reduceLT, Int.reduceLE, decide_true, decide_false, beq_self_eq_true, cast_0, cast_1, cast_2, cast_3, cast_4, cast_5, isi_str, isi_tup, addD_i, addI_i, subD_i, leD_i, leD_s, ltD_i, ltD_s, gtD_i, geD_i, eqD_i, neD_i, eqD_b, neD_b, eqD_s, lenD_l, lenD_t, absD_i, intD_i, tupD_l, tupD_t, lstD_l, lstD_t, mkT_0, mkT_1, mkT_2, mkT_3, mkL_0, mkL_1, sized_0, sized_1, ix_0, ix_1, ix_2, isT_t, isT_s, isT_l, isT_i, isT_n, isS_s, isS_t, isS_l, isS_i, isS_n, neD_s, Kd.inj, Mk.inj, Lk.inj, s_km, s_mk, List.length_append, L_c, L_i, L_n, L_a, L_cc, L_ic, L_ii, L_nc, L_ni, L_nn, L_ac, L_ai, L_an, L_aa, w_len, s1]
  refine (seq_nx (sfor_nx ?_ q3)).trans ?_
  · simp only [mVar, mC, mMap, mMap2, lift_some, lift_none, bind_ok, bind_err, bind_bad, mCons, mNil, mT, asB_bool, asB, mAnd, mOr, mNot, andV_eq, orV_eq, mNotV, mIf, chain_eq, chK_b, mCall, sSeq, sNext, sIf, sRet, sRetN, sDrop, sAsg, sRaise, sFor, sApp, sOwn, setO, ownAt, mOwn1, mPop0, sFrz, frz, sAug, ex_ok, ex_err, ex_bad, then_nx, then_ret, then_brk, then_ct, then_err, optG_some, optG_none, tName, setD, tTupG, tsCons, tsNil, Option.bind_some, List.getElem?_cons_zero, List.getElem?_cons_succ, List.set_cons_zero, List.set_cons_succ, List.length_cons, List.length_nil, Bool.not_true, Bool.not_false, Bool.false_eq_true, if_true, if_false, reduceIte, List.map_cons, List.map_nil, List.cons_append, List.nil_append, List.replicate, Nat.reduceSub, Nat.reduceAdd, Nat.reduceEqDiff, Option.map_some, Option.map_none, outs, Int.reduceAdd, Int.reduceSub, Int.reduceBEq, Int.reduceLT, Int.reduceLE, decide_true, decide_false, beq_self_eq_true, cast_0, cast_1, cast_2, cast_3, cast_4, cast_5, isi_str, isi_tup, addD_i, addI_i, subD_i, leD_i, leD_s, ltD_i, ltD_s, gtD_i, geD_i, eqD_i, neD_i, eqD_b, neD_b, eqD_s, lenD_l, lenD_t, absD_i, intD_i, tupD_l, tupD_t, lstD_l, lstD_t, mkT_0, mkT_1, mkT_2, mkT_3, mkL_0, mkL_1, sized_0, sized_1, ix_0, ix_1, ix_2, isT_t, isT_s, isT_l, isT_i, isT_n, isS_s, isS_t, isS_l, isS_i, isS_n, neD_s, Kd.inj, Mk.inj, Lk.inj, s_km, s_mk, List.length_append, L_c, L_i, L_n, L_a, L_cc, L_ic, L_ii, L_nc, L_ni, L_nn, L_ac, L_ai, L_an, L_aa, w_len, rn]
  · simp only [mVar, mC, mMap, mMap2, lift_some, lift_none, bind_ok, bind_err, bind_bad, mCons, mNil, mT, asB_bool, asB, mAnd, mOr, mNot, andV_eq, orV_eq, mNotV, mIf, chain_eq, chK_b, mCall, sSeq, sNext, sIf, sRet, sRetN, sDrop, sAsg, sRaise, sFor, sApp, sOwn, setO, ownAt, mOwn1, mPop0, sFrz, frz, sAug, ex_ok, ex_err, ex_bad, then_nx, then_ret, then_brk, then_ct, then_err, optG_some, optG_none, tName, setD, tTupG, tsCons, tsNil, Option.bind_some, List.getElem?_cons_zero, List.getElem?_cons_succ, List.set_cons_zero, List.set_cons_succ, List.length_cons, List.length_nil, Bool.not_true, Bool.not_false, Bool.false_eq_true, if_true, if_false, reduceIte, List.map_cons, List.map_nil, List.cons_append, List.nil_append, List.replicate, Nat.reduceSub, Nat.reduceAdd, Nat.reduceEqDiff, Option.map_some, Option.map_none, outs, Int.reduceAdd, Int.reduceSub, Int.reduceBEq, Int.reduceLT, Int.reduceLE, decide_true, decide_false, beq_self_eq_true, cast_0, cast_1, cast_2, cast_3, cast_4, cast_5, isi_str, isi_tup, addD_i, addI_i, subD_i, leD_i, leD_s, ltD_i, ltD_s, gtD_i, geD_i, eqD_i, neD_i, eqD_b, neD_b, eqD_s, lenD_l, lenD_t, absD_i, intD_i, tupD_l, tupD_t, lstD_l, lstD_t, mkT_0, mkT_1, mkT_2, mkT_3, mkL_0, mkL_1, sized_0, sized_1, ix_0, ix_1, ix_2, isT_t, isT_s, isT_l, isT_i, isT_n, isS_s, isS_t, isS_l, isS_i, isS_n, neD_s, Kd.inj, Mk.inj, Lk.inj, s_km, s_mk, List.length_append, L_c, L_i, L_n, L_a, L_cc, L_ic, L_ii, L_nc, L_ni, L_nn, L_ac, L_ai, L_an, L_aa, mOwnL, b0]
end
end DL

namespace DL
open PySem PySem.Spec L2
theorem nn {i : Int} (h : 0 ≤ i) : ∃ m : Nat, i = (m : Int) := ⟨i.toNat, (Int.toNat_of_nonneg h).symm⟩
theorem pow18 : powD (.int 10) (.int 18) = some (.int 1000000000000000000) := by
  show (if (0 : Int) ≤ 18 ∧ (18 : Int) ≤ 1000000 ∧ Int.natAbs 10 < 2 ^ 64 then some (PyData.int (10 ^ Int.toNat 18)) else none) = _
  rw [if_pos (by decide)]
  rfl
/-! ### draws -/
theorem dr1 {a b c d4 : D} {z6 : Sl} : ∀ (ks : List D) (L : List Nat) (m : Nat) (z : Sl), NO z → L.length + ks.length ≤ 10000 →
    ∃ (L' : List Nat) (m' : Nat) (z' : Sl), NO z' ∧ L'.length ≤ L.length + ks.length ∧ forG (tName 7) b_law_draws_1 ks [.dat a, .dat b, .dat c, .own (L.map nat), .dat d4, .dat (nat m), z6, z] = .nx [.dat a, .dat b, .dat c, .own (L'.map nat), .dat d4, .dat (nat m'), z6, z']
  | [], L, m, z, hz, _ => ⟨L, m, z, hz, Nat.le_add_right _ _, rfl⟩
  | x :: r, L, m, z, hz, hl => by
    rw [List.length_cons] at hl
    have e1 : tName 7 x [.dat a, .dat b, .dat c, .own (L.map nat), .dat d4, .dat (nat m), z6, z] = some [.dat a, .dat b, .dat c, .own (L.map nat), .dat d4, .dat (nat m), z6, .dat x] := by cases z <;> first | rfl | exact hz.elim
    have q1 : fdivD (nat m) (.int 10000) = some (nat (m / 10000)) := by
      rw [fdivD_k (by omega)]
      rfl
    have q2 : modD (nat m) (.int 10000) = some (nat (m % 10000)) := by
      rw [modD_k (by omega)]
      rfl
    have hs : (L.map nat).length < sizeLine := by
      rw [List.length_map]
      exact Nat.lt_of_lt_of_le (by omega : L.length < 10001) (small_line (by decide))
    by_cases hm : 0 < m
    · have hm' : (0 : Int) < (m : Int) := by omega
      have e2 : b_law_draws_1 [.dat a, .dat b, .dat c, .own (L.map nat), .dat d4, .dat (nat m), z6, .dat x] = .nx [.dat a, .dat b, .dat c, .own ((L ++ [m % 10000]).map nat), .dat d4, .dat (nat (m / 10000)), z6, .dat x] := by
        unfold b_law_draws_1
        simp only [mVar, mC, mMap, mMap2, lift_some, lift_none, bind_ok, bind_err, bind_bad, mCons, mNil, mT, asB_bool, asB, mAnd, mOr, mNot, andV_eq, orV_eq, mNotV, mIf, chain_eq, chK_b, mCall, sSeq, sNext, sIf, sRet, sRetN, sDrop, sAsg, sRaise, sFor, sApp, sOwn, setO, ownAt, mOwn1, mPop0, sFrz, frz, sAug, ex_ok, ex_err, ex_bad, then_nx, then_ret, then_brk, then_ct, then_err, optG_some, optG_none, tName, setD, tTupG, tsCons, tsNil, Option.bind_some, List.getElem?_cons_zero, List.getElem?_cons_succ, List.set_cons_zero, List.set_cons_succ, List.length_cons, List.length_nil, Bool.not_true, Bool.not_false, Bool.false_eq_true, if_true, if_false, reduceIte, List.map_cons, List.map_nil, List.cons_append, List.nil_append, List.replicate, Nat.reduceSub, Nat.reduceAdd, Nat.reduceEqDiff, Option.map_some, Option.map_none, outs, Int.reduceAdd, Int.reduceSub, Int.reduceBEq, Int.reduceLT, Int.reduceLE, decide_true, decide_false, beq_self_eq_true, cast_0, cast_1, cast_2, cast_3, cast_4, cast_5, isi_str, isi_tup, addD_i, addI_i, subD_i, leD_i, leD_s, ltD_i, ltD_s, gtD_i, geD_i, eqD_i, neD_i, eqD_b, neD_b, eqD_s, lenD_l, lenD_t, absD_i, intD_i, tupD_l, tupD_t, lstD_l, lstD_t, mkT_0, mkT_1, mkT_2, mkT_3, mkL_0, mkL_1, sized_0, sized_1, ix_0, ix_1, ix_2, isT_t, isT_s, isT_l, isT_i, isT_n, isS_s, isS_t, isS_l, isS_i, isS_n, neD_s, Kd.inj, Mk.inj, Lk.inj, s_km, s_mk, List.length_append, L_c, L_i, L_n, L_a, L_cc, L_ic, L_ii, L_nc, L_ni, L_nn, L_ac, L_ai, L_an, L_aa, q1, q2, hm']
        rw [if_pos hs]
        simp only [mVar, mC, mMap, mMap2, lift_some, lift_none, bind_ok, bind_err, bind_bad, mCons, mNil, mT, asB_bool, asB, mAnd, mOr, mNot, andV_eq, orV_eq, mNotV, mIf, chain_eq, chK_b, mCall, sSeq, sNext, sIf, sRet, sRetN, sDrop, sAsg, sRaise, sFor, sApp, sOwn, setO, ownAt, mOwn1, mPop0, sFrz, frz, sAug, ex_ok, ex_err, ex_bad, then_nx, then_ret, then_brk, then_ct, then_err, optG_some, optG_none, tName, setD, tTupG, tsCons, tsNil, Option.bind_some, List.getElem?_cons_zero, List.getElem?_cons_succ, List.set_cons_zero, List.set_cons_succ, List.length_cons, List.length_nil, Bool.not_true, Bool.not_false, Bool.false_eq_true, if_true, if_false, reduceIte, List.map_cons, List.map_nil, List.cons_append, List.nil_append, List.replicate, Nat.reduceSub, Nat.reduceAdd, Nat.reduceEqDiff, Option.map_some, Option.map_none, outs, Int.reduceAdd, Int.reduceSub, Int.reduceBEq, Int.reduceLT, Int.reduceLE, decide_true, decide_false, beq_self_eq_true, cast_0, cast_1, cast_2, cast_3, cast_4, cast_5, isi_str, isi_tup, addD_i, addI_i, subD_i, leD_i, leD_s, ltD_i, ltD_s, gtD_i, geD_i, eqD_i, neD_i, eqD_b, neD_b, eqD_s, lenD_l, lenD_t, absD_i, intD_i, tupD_l, tupD_t, lstD_l, lstD_t, mkT_0, mkT_1, mkT_2, mkT_3, mkL_0, mkL_1, sized_0, sized_1, ix_0, ix_1, ix_2, isT_t, isT_s, isT_l, isT_i, isT_n, isS_s, isS_t, isS_l, isS_i, isS_n, neD_s, Kd.inj, Mk.inj, Lk.inj, s_km, s_mk, List.length_append, L_c, L_i, L_n, L_a, L_cc, L_ic, L_ii, L_nc, L_ni, L_nn, L_ac, L_ai, L_an, L_aa, q1, List.map_append]
      obtain ⟨L', m', z', h1, h2, h3⟩ := dr1 r (L ++ [m % 10000]) (m / 10000) (.dat x) trivial (by rw [List.length_append, List.length_cons, List.length_nil]; omega)
      refine ⟨L', m', z', h1, by rw [List.length_append, List.length_cons, List.length_nil] at h2; rw [List.length_cons]; omega, ?_⟩
      rw [for_nx e1 e2, h3]
    · have hm' : ¬ (0 : Int) < (m : Int) := by omega
      have e2 : b_law_draws_1 [.dat a, .dat b, .dat c, .own (L.map nat), .dat d4, .dat (nat m), z6, .dat x] = .nx [.dat a, .dat b, .dat c, .own (L.map nat), .dat d4, .dat (nat (m / 10000)), z6, .dat x] := by
        unfold b_law_draws_1
        simp only [mVar, mC, mMap, mMap2, lift_some, lift_none, bind_ok, bind_err, bind_bad, mCons, mNil, mT, asB_bool, asB, mAnd, mOr, mNot, andV_eq, orV_eq, mNotV, mIf, chain_eq, chK_b, mCall, sSeq, sNext, sIf, sRet, sRetN, sDrop, sAsg, sRaise, sFor, sApp, sOwn, setO, ownAt, mOwn1, mPop0, sFrz, frz, sAug, ex_ok, ex_err, ex_bad, then_nx, then_ret, then_brk, then_ct, then_err, optG_some, optG_none, tName, setD, tTupG, tsCons, tsNil, Option.bind_some, List.getElem?_cons_zero, List.getElem?_cons_succ, List.set_cons_zero, List.set_cons_succ, List.length_cons, List.length_nil, Bool.not_true, Bool.not_false, Bool.false_eq_true, if_true, if_false, reduceIte, List.map_cons, List.map_nil, List.cons_append, List.nil_append, List.replicate, Nat.reduceSub, Nat.reduceAdd, Nat.reduceEqDiff, Option.map_some, Option.map_none, outs, Int.reduceAdd, Int.reduceSub, Int.reduceBEq, Int.reduceLT, Int.reduceLE, decide_true, decide_false, beq_self_eq_true, cast_0, cast_1, cast_2, cast_3, cast_4, cast_5, isi_str, isi_tup, addD_i, addI_i, subD_i, leD_i, leD_s, ltD_i, ltD_s, gtD_i, geD_i, eqD_i, neD_i, eqD_b, neD_b, eqD_s, lenD_l, lenD_t, absD_i, intD_i, tupD_l, tupD_t, lstD_l, lstD_t, mkT_0, mkT_1, mkT_2, mkT_3, mkL_0, mkL_1, sized_0, sized_1, ix_0, ix_1, ix_2, isT_t, isT_s, isT_l, isT_i, isT_n, isS_s, isS_t, isS_l, isS_i, isS_n, neD_s, Kd.inj, Mk.inj, Lk.inj, s_km, s_mk, List.length_append, L_c, L_i, L_n, L_a, L_cc, L_ic, L_ii, L_nc, L_ni, L_nn, L_ac, L_ai, L_an, L_aa, q1, q2, hm']
      obtain ⟨L', m', z', h1, h2, h3⟩ := dr1 r L (m / 10000) (.dat x) trivial (by omega)
      refine ⟨L', m', z', h1, by rw [List.length_cons]; omega, ?_⟩
      rw [for_nx e1 e2, h3]
theorem abs_nat (i : Int) : (if i < 0 then -i else i) = (i.natAbs : Int) := by
  split <;> omega
theorem dr2 {a b c : D} {i : Int} {L : List Nat} {z5 z6 z7 : Sl} (h5 : NO z5) (h6 : NO z6) (h7 : NO z7) (hl : L.length ≤ 5000) :
    ∃ (L' : List Nat) (z5' z6' z7' : Sl), NO z5' ∧ NO z6' ∧ NO z7' ∧ L'.length ≤ L.length + 20 ∧ b_law_draws_2 [.dat a, .dat b, .dat c, .own (L.map nat), .dat (.int i), z5, z6, z7] = .nx [.dat a, .dat b, .dat c, .own (L'.map nat), .dat (.int i), z5', z6', z7'] := by
  have hs : (L.map nat).length < sizeLine := by
    rw [List.length_map]
    exact Nat.lt_of_lt_of_le (by omega : L.length < 10001) (small_line (by decide))
  have ab0 := abs_nat i
  generalize i.natAbs = n at ab0
  have ab : absD [.int i] = some (nat n) := by rw [absD_i, ab0]
  by_cases hb : n < 1000000000000000000
  · have hb' : (n : Int) < 1000000000000000000 := by omega
    have m1 : mulD (nat n) (.int 48271) = some (.int ((n : Int) * 48271)) := mulD_k (by omega)
    have m2 : modD (.int ((n : Int) * 48271 + 11)) (.int 2147483647) = some (.int (((n : Int) * 48271 + 11) % 2147483647)) := modD_k (by omega)
    obtain ⟨x, hx⟩ := nn (i := ((n : Int) * 48271 + 11) % 2147483647) (by omega)
    rw [hx] at m2
    have m3 : mulD (nat x) (.int 16807) = some (.int ((x : Int) * 16807)) := mulD_k (by omega)
    have m4 : mulD (nat x) (.int 69621) = some (.int ((x : Int) * 69621)) := mulD_k (by omega)
    have d1 : fdivD (nat n) (.int 9) = some (nat (n / 9)) := by rw [fdivD_k (by omega)]; rfl
    have d2 : fdivD (nat n) (.int 5) = some (nat (n / 5)) := by rw [fdivD_k (by omega)]; rfl
    obtain ⟨y1, hy1⟩ := nn (i := ((x : Int) * 16807 + ((n / 9 : Nat) : Int) + 3) % 2147483647 / 7) (by omega)
    obtain ⟨y2, hy2⟩ := nn (i := ((x : Int) * 69621 + ((n / 5 : Nat) : Int) + 7) % 2147483647 / 11) (by omega)
    have m5 : modD (.int ((x : Int) * 16807 + ((n / 9 : Nat) : Int) + 3)) (.int 2147483647) = some (.int (((x : Int) * 16807 + ((n / 9 : Nat) : Int) + 3) % 2147483647)) := modD_k (by omega)
    have m6 : modD (.int ((x : Int) * 69621 + ((n / 5 : Nat) : Int) + 7)) (.int 2147483647) = some (.int (((x : Int) * 69621 + ((n / 5 : Nat) : Int) + 7) % 2147483647)) := modD_k (by omega)
    have d3 : fdivD (.int (((x : Int) * 16807 + ((n / 9 : Nat) : Int) + 3) % 2147483647)) (.int 7) = some (nat y1) := by rw [fdivD_k (by omega), hy1]
    have d4 : fdivD (.int (((x : Int) * 69621 + ((n / 5 : Nat) : Int) + 7) % 2147483647)) (.int 11) = some (nat y2) := by rw [fdivD_k (by omega), hy2]
    have hs2 : (L.map nat).length + 1 < sizeLine := by
      rw [List.length_map]
      exact Nat.lt_of_lt_of_le (by omega : L.length + 1 < 10001) (small_line (by decide))
    have hs3 : (L.map nat).length + 1 + 1 < sizeLine := by
      rw [List.length_map]
      exact Nat.lt_of_lt_of_le (by omega : L.length + 1 + 1 < 10001) (small_line (by decide))
    have fin : ∀ z5 z6 : Sl, (∃ v, z5 = .un ∨ z5 = .dat v) → (∃ v, z6 = .un ∨ z6 = .dat v) → b_law_draws_2 [.dat a, .dat b, .dat c, .own (L.map nat), .dat (.int i), z5, z6, z7] = .nx [.dat a, .dat b, .dat c, .own ((L ++ [n] ++ [y1] ++ [y2]).map nat), .dat (.int i), .dat (nat n), .dat (nat x), z7] := by
      intro z5 z6 h5 h6
      obtain ⟨v5, e5⟩ := h5
      obtain ⟨v6, e6⟩ := h6
      have le : (L ++ [n] ++ [y1] ++ [y2]).map nat = L.map nat ++ [nat n] ++ [nat y1] ++ [nat y2] := by rw [List.map_append, List.map_append, List.map_append]; rfl
      rw [le]
      rcases e5 with rfl | rfl <;> rcases e6 with rfl | rfl <;> (unfold b_law_draws_2; simp only [mVar, mC, mMap, mMap2, lift_some, lift_none, bind_ok, bind_err, bind_bad, mCons, mNil, mT, asB_bool, asB, mAnd, mOr, mNot, andV_eq, orV_eq, mNotV, mIf, chain_eq, chK_b, mCall, sSeq, sNext, sIf, sRet, sRetN, sDrop, sAsg, sRaise, sFor, sApp, sOwn, setO, ownAt, mOwn1, mPop0, sFrz, frz, sAug, ex_ok, ex_err, ex_bad, then_nx, then_ret, then_brk, then_ct, then_err, optG_some, optG_none, tName, setD, tTupG, tsCons, tsNil, Option.bind_some, List.getElem?_cons_zero, List.getElem?_cons_succ, List.set_cons_zero, List.set_cons_succ, List.length_cons, List.length_nil, Bool.not_true, Bool.not_false, Bool.false_eq_true, if_true, if_false, reduceIte, List.map_cons, List.map_nil, List.cons_append, List.nil_append, List.replicate, Nat.reduceSub, Nat.reduceAdd, Nat.reduceEqDiff, Option.map_some, Option.map_none, outs, Int.reduceAdd, Int.reduceSub, Int.reduceBEq, Int.reduceLT, Int.reduceLE, decide_true, decide_false, beq_self_eq_true, cast_0, cast_1, cast_2, cast_3, cast_4, cast_5, isi_str, isi_tup, addD_i, addI_i, subD_i, leD_i, leD_s, ltD_i, ltD_s, gtD_i, geD_i, eqD_i, neD_i, eqD_b, neD_b, eqD_s, lenD_l, lenD_t, absD_i, intD_i, tupD_l, tupD_t, lstD_l, lstD_t, mkT_0, mkT_1, mkT_2, mkT_3, mkL_0, mkL_1, sized_0, sized_1, ix_0, ix_1, ix_2, isT_t, isT_s, isT_l, isT_i, isT_n, isS_s, isS_t, isS_l, isS_i, isS_n, neD_s, Kd.inj, Mk.inj, Lk.inj, s_km, s_mk, List.length_append, L_c, L_i, L_n, L_a, L_cc, L_ic, L_ii, L_nc, L_ni, L_nn, L_ac, L_ai, L_an, L_aa, ab, pow18, hb', m1, m2, hs, hs2, hs3, m3, m4, m5, m6, d1, d2, d3, d4])
    refine ⟨L ++ [n] ++ [y1] ++ [y2], .dat (nat n), .dat (nat x), z7, trivial, trivial, h7, by rw [List.length_append, List.length_append, List.length_append, List.length_cons, List.length_nil, List.length_cons, List.length_nil, List.length_cons, List.length_nil]; omega, fin z5 z6 ?_ ?_⟩
    · cases z5 with
      | un => exact ⟨.none, .inl rfl⟩
      | dat v => exact ⟨v, .inr rfl⟩
      | own _ => exact h5.elim
      | dic _ => exact h5.elim
    · cases z6 with
      | un => exact ⟨.none, .inl rfl⟩
      | dat v => exact ⟨v, .inr rfl⟩
      | own _ => exact h6.elim
      | dic _ => exact h6.elim
  · have hb' : ¬ (n : Int) < 1000000000000000000 := by omega
    have hr : rng1 [.int 20] = some (upto 0 20) := rng1_i (by omega)
    have hu : (upto 0 20).length = 20 := upto_len 0 20
    obtain ⟨L', m', z', q1, q2, q3⟩ := dr1 (a := a) (b := b) (c := c) (d4 := .int i) (z6 := z6) (upto 0 20) L n z7 h7 (by rw [hu]; omega)
    rw [hu] at q2
    refine ⟨L', .dat (nat m'), z6, z', trivial, h6, q1, q2, ?_⟩
    generalize upto 0 20 = us at hr q3
    have fin : ∀ z5 : Sl, (∃ v, z5 = .un ∨ z5 = .dat v) → b_law_draws_2 [.dat a, .dat b, .dat c, .own (L.map nat), .dat (.int i), z5, z6, z7] = .nx [.dat a, .dat b, .dat c, .own (L'.map nat), .dat (.int i), .dat (nat m'), z6, z'] := by
      intro z5 h5
      obtain ⟨v5, e5⟩ := h5
      rcases e5 with rfl | rfl <;> (unfold b_law_draws_2; simp only [mVar, mC, mMap, mMap2, lift_some, lift_none, bind_ok, bind_err, bind_bad, mCons, mNil, mT, asB_bool, asB, mAnd, mOr, mNot, andV_eq, orV_eq, mNotV, mIf, chain_eq, chK_b, mCall, sSeq, sNext, sIf, sRet, sRetN, sDrop, sAsg, sRaise, sFor, sApp, sOwn, setO, ownAt, mOwn1, mPop0, sFrz, frz, sAug, ex_ok, ex_err, ex_bad, then_nx, then_ret, then_brk, then_ct, then_err, optG_some, optG_none, tName, setD, tTupG, tsCons, tsNil, Option.bind_some, List.getElem?_cons_zero, List.getElem?_cons_succ, List.set_cons_zero, List.set_cons_succ, List.length_cons, List.length_nil, Bool.not_true, Bool.not_false, Bool.false_eq_true, if_true, if_false, reduceIte, List.map_cons, List.map_nil, List.cons_append, List.nil_append, List.replicate, Nat.reduceSub, Nat.reduceAdd, Nat.reduceEqDiff, Option.map_some, Option.map_none, outs, Int.reduceAdd, Int.reduceSub, Int.reduceBEq, Int.reduceLT, Int.reduceLE, decide_true, decide_false, beq_self_eq_true, cast_0, cast_1, cast_2, cast_3, cast_4, cast_5, isi_str, isi_tup, addD_i, addI_i, subD_i, leD_i, leD_s, ltD_i, ltD_s, gtD_i, geD_i, eqD_i, neD_i, eqD_b, neD_b, eqD_s, lenD_l, lenD_t, absD_i, intD_i, tupD_l, tupD_t, lstD_l, lstD_t, mkT_0, mkT_1, mkT_2, mkT_3, mkL_0, mkL_1, sized_0, sized_1, ix_0, ix_1, ix_2, isT_t, isT_s, isT_l, isT_i, isT_n, isS_s, isS_t, isS_l, isS_i, isS_n, neD_s, Kd.inj, Mk.inj, Lk.inj, s_km, s_mk, List.length_append, L_c, L_i, L_n, L_a, L_cc, L_ic, L_ii, L_nc, L_ni, L_nn, L_ac, L_ai, L_an, L_aa, ab, pow18, hb', hr]; exact q3)
    refine fin z5 ?_
    cases z5 with
    | un => exact ⟨.none, .inl rfl⟩
    | dat v => exact ⟨v, .inr rfl⟩
    | own _ => exact h5.elim
    | dic _ => exact h5.elim
theorem dr3 {a b c : D} : ∀ (ns : List Int) (L : List Nat) (z4 z5 z6 z7 : Sl), NO z4 → NO z5 → NO z6 → NO z7 → L.length + 20 * ns.length ≤ 5000 →
    ∃ (L' : List Nat) (z4' z5' z6' z7' : Sl), L'.length ≤ L.length + 20 * ns.length ∧ forG (tName 4) b_law_draws_2 (ns.map .int) [.dat a, .dat b, .dat c, .own (L.map nat), z4, z5, z6, z7] = .nx [.dat a, .dat b, .dat c, .own (L'.map nat), z4', z5', z6', z7']
  | [], L, z4, z5, z6, z7, _, _, _, _, _ => ⟨L, z4, z5, z6, z7, Nat.le_add_right _ _, rfl⟩
  | i :: r, L, z4, z5, z6, z7, h4, h5, h6, h7, hl => by
    rw [List.length_cons] at hl
    have e1 : tName 4 (.int i) [.dat a, .dat b, .dat c, .own (L.map nat), z4, z5, z6, z7] = some [.dat a, .dat b, .dat c, .own (L.map nat), .dat (.int i), z5, z6, z7] := by cases z4 <;> first | rfl | exact h4.elim
    obtain ⟨L1, y5, y6, y7, k5, k6, k7, kl, e2⟩ := dr2 (a := a) (b := b) (c := c) (i := i) (L := L) h5 h6 h7 (by omega)
    obtain ⟨L', x4, x5, x6, x7, ql, q⟩ := dr3 r L1 (.dat (.int i)) y5 y6 y7 trivial k5 k6 k7 (by omega)
    refine ⟨L', x4, x5, x6, x7, by rw [List.length_cons]; omega, ?_⟩
    rw [List.map_cons, for_nx e1 e2, q]
theorem draws_eq (M : Nat) {ns : List Int} (h : ns.length ≤ 63) : ∃ L : List Nat, F_law_draws [.dat (.list (ns.map .int)), .dat (.int 0), .dat (nat M)] = .ok (L.map nat) [.dat (.list (ns.map .int)), .dat (.int 0), .dat (nat M)] := by
  obtain ⟨L, z4, z5, z6, z7, ql, q⟩ := dr3 (a := .list (ns.map .int)) (b := .int 0) (c := nat M) ns [] .un .un .un .un trivial trivial trivial trivial (by rw [List.length_nil]; omega)
  refine ⟨L.take (min M L.length), ?_⟩
  have e1 : slD (.list (ns.map .int)) (some 0) none = some (.list (ns.map .int)) := by
    show some (PyData.list (cutD (ns.map .int) (some 0) none)) = _
    rw [cutD_all ⟨rfl, rfl⟩]
  have e2 : items (.list (ns.map PyData.int)) = some (ns.map .int) := rfl
  have e3 : cutD (L.map nat) none (some (M : Int)) = (L.take (min M L.length)).map nat := by
    rw [cut_to, List.map_take]
    conv => rhs; rw [← List.length_map (f := nat) (as := L)]
    rw [← List.take_take, List.take_length]
  have hg : g_law_draws [.dat (.list (ns.map .int)), .dat (.int 0), .dat (nat M), .un, .un, .un, .un, .un] = .ok ((L.take (min M L.length)).map nat) [.dat (.list (ns.map .int)), .dat (.int 0), .dat (nat M), .own (L.map nat), z4, z5, z6, z7] := by
    unfold g_law_draws lSeq mSl mSlF mPart
    simp only [mVar, mC, mMap, mMap2, lift_some, lift_none, bind_ok, bind_err, bind_bad, mCons, mNil, mT, asB_bool, asB, mAnd, mOr, mNot, andV_eq, orV_eq, mNotV, mIf, chain_eq, chK_b, mCall, sSeq, sNext, sIf, sRet, sRetN, sDrop, sAsg, sRaise, sFor, sApp, sOwn, setO, ownAt, mOwn1, mPop0, sFrz, frz, sAug, ex_ok, ex_err, ex_bad, then_nx, then_ret, then_brk, then_ct, then_err, optG_some, optG_none, tName, setD, tTupG, tsCons, tsNil, Option.bind_some, List.getElem?_cons_zero, List.getElem?_cons_succ, List.set_cons_zero, List.set_cons_succ, List.length_cons, List.length_nil, Bool.not_true, Bool.not_false, Bool.false_eq_true, if_true, if_false, reduceIte, List.map_cons, List.map_nil, List.cons_append, List.nil_append, List.replicate, Nat.reduceSub, Nat.reduceAdd, Nat.reduceEqDiff, Option.map_some, Option.map_none, outs, Int.reduceAdd, Int.reduceSub, Int.reduceBEq, Int.reduceLT, Int.reduceLE, decide_true, decide_false, beq_self_eq_true, cast_0, cast_1, cast_2, cast_3, cast_4, cast_5, isi_str, isi_tup, addD_i, addI_i, subD_i, leD_i, leD_s, ltD_i, ltD_s, gtD_i, geD_i, eqD_i, neD_i, eqD_b, neD_b, eqD_s, lenD_l, lenD_t, absD_i, intD_i, tupD_l, tupD_t, lstD_l, lstD_t, mkT_0, mkT_1, mkT_2, mkT_3, mkL_0, mkL_1, sized_0, sized_1, ix_0, ix_1, ix_2, isT_t, isT_s, isT_l, isT_i, isT_n, isS_s, isS_t, isS_l, isS_i, isS_n, neD_s, Kd.inj, Mk.inj, Lk.inj, s_km, s_mk, List.length_append, L_c, L_i, L_n, L_a, L_cc, L_ic, L_ii, L_nc, L_ni, L_nn, L_ac, L_ai, L_an, L_aa, e1, e2]
    rw [show ([] : List D) = ([] : List Nat).map nat from rfl, q]
    simp only [mVar, mC, mMap, mMap2, lift_some, lift_none, bind_ok, bind_err, bind_bad, mCons, mNil, mT, asB_bool, asB, mAnd, mOr, mNot, andV_eq, orV_eq, mNotV, mIf, chain_eq, chK_b, mCall, sSeq, sNext, sIf, sRet, sRetN, sDrop, sAsg, sRaise, sFor, sApp, sOwn, setO, ownAt, mOwn1, mPop0, sFrz, frz, sAug, ex_ok, ex_err, ex_bad, then_nx, then_ret, then_brk, then_ct, then_err, optG_some, optG_none, tName, setD, tTupG, tsCons, tsNil, Option.bind_some, List.getElem?_cons_zero, List.getElem?_cons_succ, List.set_cons_zero, List.set_cons_succ, List.length_cons, List.length_nil, Bool.not_true, Bool.not_false, Bool.false_eq_true, if_true, if_false, reduceIte, List.map_cons, List.map_nil, List.cons_append, List.nil_append, List.replicate, Nat.reduceSub, Nat.reduceAdd, Nat.reduceEqDiff, Option.map_some, Option.map_none, outs, Int.reduceAdd, Int.reduceSub, Int.reduceBEq, Int.reduceLT, Int.reduceLE, decide_true, decide_false, beq_self_eq_true, cast_0, cast_1, cast_2, cast_3, cast_4, cast_5, isi_str, isi_tup, addD_i, addI_i, subD_i, leD_i, leD_s, ltD_i, ltD_s, gtD_i, geD_i, eqD_i, neD_i, eqD_b, neD_b, eqD_s, lenD_l, lenD_t, absD_i, intD_i, tupD_l, tupD_t, lstD_l, lstD_t, mkT_0, mkT_1, mkT_2, mkT_3, mkL_0, mkL_1, sized_0, sized_1, ix_0, ix_1, ix_2, isT_t, isT_s, isT_l, isT_i, isT_n, isS_s, isS_t, isS_l, isS_i, isS_n, neD_s, Kd.inj, Mk.inj, Lk.inj, s_km, s_mk, List.length_append, L_c, L_i, L_n, L_a, L_cc, L_ic, L_ii, L_nc, L_ni, L_nn, L_ac, L_ai, L_an, L_aa, e3]
  unfold F_law_draws runL
  rw [show ([.dat (.list (ns.map .int)), .dat (.int 0), .dat (nat M)] ++ List.replicate (8 - [Sl.dat (.list (ns.map .int)), .dat (.int 0), .dat (nat M)].length) .un : Sts) = [.dat (.list (ns.map .int)), .dat (.int 0), .dat (nat M), .un, .un, .un, .un, .un] from rfl, hg]
  rfl
theorem next_eq (L : List Nat) : F_law_next [.own (L.map nat)] = .ok (nat (L.headD 0)) [.own (L.tail.map nat)] := by
  cases L with
  | nil =>
    refine run_ret (st := [.own []]) (s := [.own []]) ?_
    unfold g_law_next
    simp only [mVar, mC, mMap, mMap2, lift_some, lift_none, bind_ok, bind_err, bind_bad, mCons, mNil, mT, asB_bool, asB, mAnd, mOr, mNot, andV_eq, orV_eq, mNotV, mIf, chain_eq, chK_b, mCall, sSeq, sNext, sIf, sRet, sRetN, sDrop, sAsg, sRaise, sFor, sApp, sOwn, setO, ownAt, mOwn1, mPop0, sFrz, frz, sAug, ex_ok, ex_err, ex_bad, then_nx, then_ret, then_brk, then_ct, then_err, optG_some, optG_none, tName, setD, tTupG, tsCons, tsNil, Option.bind_some, List.getElem?_cons_zero, List.getElem?_cons_succ, List.set_cons_zero, List.set_cons_succ, List.length_cons, List.length_nil, Bool.not_true, Bool.not_false, Bool.false_eq_true, if_true, if_false, reduceIte, List.map_cons, List.map_nil, List.cons_append, List.nil_append, List.replicate, Nat.reduceSub, Nat.reduceAdd, Nat.reduceEqDiff, Option.map_some, Option.map_none, outs, Int.reduceAdd, Int.reduceSub, Int.reduceBEq, Int.reduceLT, Int.reduceLE, decide_true, decide_false, beq_self_eq_true, cast_0, cast_1, cast_2, cast_3, cast_4, cast_5, isi_str, isi_tup, addD_i, addI_i, subD_i, leD_i, leD_s, ltD_i, ltD_s, gtD_i, geD_i, eqD_i, neD_i, eqD_b, neD_b, eqD_s, lenD_l, lenD_t, absD_i, intD_i, tupD_l, tupD_t, lstD_l, lstD_t, mkT_0, mkT_1, mkT_2, mkT_3, mkL_0, mkL_1, sized_0, sized_1, ix_0, ix_1, ix_2, isT_t, isT_s, isT_l, isT_i, isT_n, isS_s, isS_t, isS_l, isS_i, isS_n, neD_s, Kd.inj, Mk.inj, Lk.inj, s_km, s_mk, List.length_append, L_c, L_i, L_n, L_a, L_cc, L_ic, L_ii, L_nc, L_ni, L_nn, L_ac, L_ai, L_an, L_aa]
    rfl
  | cons m r =>
    refine run_ret (st := [.own ((m :: r).map nat)]) (s := [.own (r.map nat)]) ?_
    unfold g_law_next
    have h0 : ((((r.map nat).length + 1 : Nat) : Int) == 0) = false := by
      rw [beq_eq_false_iff_ne]
      omega
    simp only [mVar, mC, mMap, mMap2, lift_some, lift_none, bind_ok, bind_err, bind_bad, mCons, mNil, mT, asB_bool, asB, mAnd, mOr, mNot, andV_eq, orV_eq, mNotV, mIf, chain_eq, chK_b, mCall, sSeq, sNext, sIf, sRet, sRetN, sDrop, sAsg, sRaise, sFor, sApp, sOwn, setO, ownAt, mOwn1, mPop0, sFrz, frz, sAug, ex_ok, ex_err, ex_bad, then_nx, then_ret, then_brk, then_ct, then_err, optG_some, optG_none, tName, setD, tTupG, tsCons, tsNil, Option.bind_some, List.getElem?_cons_zero, List.getElem?_cons_succ, List.set_cons_zero, List.set_cons_succ, List.length_cons, List.length_nil, Bool.not_true, Bool.not_false, Bool.false_eq_true, if_true, if_false, reduceIte, List.map_cons, List.map_nil, List.cons_append, List.nil_append, List.replicate, Nat.reduceSub, Nat.reduceAdd, Nat.reduceEqDiff, Option.map_some, Option.map_none, outs, Int.reduceAdd, Int.reduceSub, Int.reduceBEq, Int.reduceLT, Int.reduceLE, decide_true, decide_false, beq_self_eq_true, cast_0, cast_1, cast_2, cast_3, cast_4, cast_5, isi_str, isi_tup, addD_i, addI_i, subD_i, leD_i, leD_s, ltD_i, ltD_s, gtD_i, geD_i, eqD_i, neD_i, eqD_b, neD_b, eqD_s, lenD_l, lenD_t, absD_i, intD_i, tupD_l, tupD_t, lstD_l, lstD_t, mkT_0, mkT_1, mkT_2, mkT_3, mkL_0, mkL_1, sized_0, sized_1, ix_0, ix_1, ix_2, isT_t, isT_s, isT_l, isT_i, isT_n, isS_s, isS_t, isS_l, isS_i, isS_n, neD_s, Kd.inj, Mk.inj, Lk.inj, s_km, s_mk, List.length_append, L_c, L_i, L_n, L_a, L_cc, L_ic, L_ii, L_nc, L_ni, L_nn, L_ac, L_ai, L_an, L_aa, h0]
    rfl
theorem ix_typed {α : Type} (f : α → D) (xs : List α) {m : Nat} (hm : xs.length = m) (h0 : 0 < m) (n : Nat) : ∃ x, x ∈ xs ∧ ixD (.list (xs.map f)) (nat (n % m)) = some (f x) := by
  have h : n % m < xs.length := by rw [hm]; exact Nat.mod_lt _ h0
  exact ⟨xs[n % m], List.getElem_mem h, ixD_l (by rw [List.getElem?_map, List.getElem?_eq_getElem h]; rfl)⟩
theorem mod_nat (n m : Nat) (h : 0 < m) : modD (nat n) (.int (m : Int)) = some (nat (n % m)) := by
  rw [modD_k (by omega)]
  rfl
theorem div_nat (n m : Nat) (h : 0 < m ∧ m < 1073741824) : fdivD (nat n) (.int (m : Int)) = some (nat (n / m)) := by
  rw [fdivD_k (by omega)]
  rfl
/-! ### drawn parts and selectors -/
abbrev kindsL : List (Option Kd) := [none, none, some .a, some .b, some .c]
abbrev marksL : List (List Mk) := [[], [], [.x], [.y], [.x, .y]]
abbrev notsL : List (List Tst) := [[], [], [], [.kind .b], [.mark .x], [.kind .a, .mark .y]]
abbrev pairsL : List (Nat × Nat) := [(1, 0), (1, 0), (1, 0), (0, 1), (2, 1), (3, 2), (0, 2), (1, 2)]
def prD (q : Nat × Nat) : D := .tuple [nat q.1, nat q.2]
structure GP (p : Part) : Prop where
  k : p.k ∈ kindsL
  m : p.m ∈ marksL
  n : p.n ∈ notsL
  q : (p.s, p.f) ∈ pairsL
theorem mkL_100 {xs : List D} (h : xs.length ≤ 100) : mkL xs = some (.list xs) := mkL_s (small_line (by omega))
theorem mkT_100 {xs : List D} (h : xs.length ≤ 100) : mkT xs = some (.tuple xs) := mkT_s (small_line (by omega))
theorem law_part_eq (d : Nat) : ∃ p, GP p ∧ F_law_part [.dat (nat d)] = .ok (pD p) [.dat (nat d)] := by
  obtain ⟨k, hk, ek⟩ := ix_typed okD kindsL (m := 5) rfl (by decide) d
  obtain ⟨m, hm, em⟩ := ix_typed msD marksL (m := 5) rfl (by decide) (d / 5)
  obtain ⟨n, hn, en⟩ := ix_typed (fun n => PyData.tuple (n.map tD)) notsL (m := 6) rfl (by decide) (d / 25)
  obtain ⟨q, hq, eq⟩ := ix_typed prD pairsL (m := 8) rfl (by decide) (d / 150)
  refine ⟨⟨k, m, n, q.1, q.2⟩, ⟨hk, hm, hn, hq⟩, ?_⟩
  refine run_of (st := [.dat (nat d), .un, .un, .un, .un]) ⟨[.dat (nat d), .dat (okD k), .dat (msD m), .dat (.tuple (n.map tD)), .dat (prD q)], ?_, rfl⟩
  have m5 : modD (nat d) (.int 5) = some (nat (d % 5)) := mod_nat d 5 (by decide)
  have d5 : fdivD (nat d) (.int 5) = some (nat (d / 5)) := div_nat d 5 (by decide)
  have d25 : fdivD (nat d) (.int 25) = some (nat (d / 25)) := div_nat d 25 (by decide)
  have d150 : fdivD (nat d) (.int 150) = some (nat (d / 150)) := div_nat d 150 (by decide)
  have m55 : modD (nat (d / 5)) (.int 5) = some (nat (d / 5 % 5)) := mod_nat _ 5 (by decide)
  have m6 : modD (nat (d / 25)) (.int 6) = some (nat (d / 25 % 6)) := mod_nat _ 6 (by decide)
  have m8 : modD (nat (d / 150)) (.int 8) = some (nat (d / 150 % 8)) := mod_nat _ 8 (by decide)
  have ek : ixD (.list [.none, .none, .str "a", .str "b", .str "c"]) (nat (d % 5)) = some (okD k) := ek
  have em : ixD (.list [.tuple [], .tuple [], .tuple [.str "x"], .tuple [.str "y"], .tuple [.str "x", .str "y"]]) (nat (d / 5 % 5)) = some (msD m) := em
  have en : ixD (.list [.tuple [], .tuple [], .tuple [], .tuple [.tuple [.str "kind", .str "b"]], .tuple [.tuple [.str "mark", .str "x"]], .tuple [.tuple [.str "kind", .str "a"], .tuple [.str "mark", .str "y"]]]) (nat (d / 25 % 6)) = some (.tuple (n.map tD)) := en
  have eq : ixD (.list [.tuple [.int 1, .int 0], .tuple [.int 1, .int 0], .tuple [.int 1, .int 0], .tuple [.int 0, .int 1], .tuple [.int 2, .int 1], .tuple [.int 3, .int 2], .tuple [.int 0, .int 2], .tuple [.int 1, .int 2]]) (nat (d / 150 % 8)) = some (prD q) := eq
  have q0 : ixD (prD q) (.int 0) = some (nat q.1) := ix_0 _ _
  have q1 : ixD (prD q) (.int 1) = some (nat q.2) := ix_1 _ _ _
  unfold g_law_part
  simp only [mVar, mC, mMap, mMap2, lift_some, lift_none, bind_ok, bind_err, bind_bad, mCons, mNil, mT, asB_bool, asB, mAnd, mOr, mNot, andV_eq, orV_eq, mNotV, mIf, chain_eq, chK_b, mCall, sSeq, sNext, sIf, sRet, sRetN, sDrop, sAsg, sRaise, sFor, sApp, sOwn, setO, ownAt, mOwn1, mPop0, sFrz, frz, sAug, ex_ok, ex_err, ex_bad, then_nx, then_ret, then_brk, then_ct, then_err, optG_some, optG_none, tName, setD, tTupG, tsCons, tsNil, Option.bind_some, List.getElem?_cons_zero, List.getElem?_cons_succ, List.set_cons_zero, List.set_cons_succ, List.length_cons, List.length_nil, Bool.not_true, Bool.not_false, Bool.false_eq_true, if_true, if_false, reduceIte, List.map_cons, List.map_nil, List.cons_append, List.nil_append, List.replicate, Nat.reduceSub, Nat.reduceAdd, Nat.reduceEqDiff, Option.map_some, Option.map_none, outs, Int.reduceAdd, Int.reduceSub, Int.reduceBEq, Int.reduceLT, Int.reduceLE, decide_true, decide_false, beq_self_eq_true, cast_0, cast_1, cast_2, cast_3, cast_4, cast_5, isi_str, isi_tup, addD_i, addI_i, subD_i, leD_i, leD_s, ltD_i, ltD_s, gtD_i, geD_i, eqD_i, neD_i, eqD_b, neD_b, eqD_s, lenD_l, lenD_t, absD_i, intD_i, tupD_l, tupD_t, lstD_l, lstD_t, mkT_0, mkT_1, mkT_2, mkT_3, mkL_0, mkL_1, sized_0, sized_1, ix_0, ix_1, ix_2, isT_t, isT_s, isT_l, isT_i, isT_n, isS_s, isS_t, isS_l, isS_i, isS_n, neD_s, Kd.inj, Mk.inj, Lk.inj, s_km, s_mk, List.length_append, L_c, L_i, L_n, L_a, L_cc, L_ic, L_ii, L_nc, L_ni, L_nn, L_ac, L_ai, L_an, L_aa, mkL_100, mkT_100, Nat.reduceLeDiff, m5, d5, d25, d150, m55, m6, m8, ek, em, en, eq, q0, q1]
  rfl
theorem sel_for {most : D} : ∀ (ks : List D) (ps : List Part) (ls : List Lk) (L : List Nat) (z : Sl), NO z → ps.length + ks.length ≤ 100 → ls.length + ks.length ≤ 100 → (∀ p ∈ ps, GP p) →
    ∃ (ps' : List Part) (ls' : List Lk) (L' : List Nat) (z' : Sl), ps'.length = ps.length + ks.length ∧ ls'.length = ls.length + ks.length ∧ (∀ p ∈ ps', GP p) ∧ forG (tName 4) b_law_selector_1 ks [.own (L.map nat), .dat most, .own (ps.map pD), .own (ls.map lD), z] = .nx [.own (L'.map nat), .dat most, .own (ps'.map pD), .own (ls'.map lD), z']
  | [], ps, ls, L, z, _, _, _, h1 => ⟨ps, ls, L, z, rfl, rfl, h1, rfl⟩
  | x :: r, ps, ls, L, z, hz, hp, hl, h1 => by
    rw [List.length_cons] at hp hl
    obtain ⟨l, _, el⟩ := ix_typed lD [Lk.child, .inside, .next, .after] (m := 4) rfl (by decide) (L.headD 0)
    have el : ixD (.list [.str "child", .str "inside", .str "next", .str "after"]) (nat (L.headD 0 % 4)) = some (lD l) := el
    obtain ⟨p, hp', ep⟩ := law_part_eq (L.tail.headD 0)
    have m4 : modD (nat (L.headD 0)) (.int 4) = some (nat (L.headD 0 % 4)) := mod_nat _ 4 (by decide)
    have s1 : ps.length < sizeLine := Nat.lt_of_lt_of_le (by omega : ps.length < 10001) (small_line (by decide))
    have s2 : ls.length < sizeLine := Nat.lt_of_lt_of_le (by omega : ls.length < 10001) (small_line (by decide))
    have e2 : b_law_selector_1 [.own (L.map nat), .dat most, .own (ps.map pD), .own (ls.map lD), .dat x] = .nx [.own (L.tail.tail.map nat), .dat most, .own ((ps ++ [p]).map pD), .own ((ls ++ [l]).map lD), .dat x] := by
      unfold b_law_selector_1
      simp only [mVar, mC, mMap, mMap2, lift_some, lift_none, bind_ok, bind_err, bind_bad, mCons, mNil, mT, asB_bool, asB, mAnd, mOr, mNot, andV_eq, orV_eq, mNotV, mIf, chain_eq, chK_b, mCall, sSeq, sNext, sIf, sRet, sRetN, sDrop, sAsg, sRaise, sFor, sApp, sOwn, setO, ownAt, mOwn1, mPop0, sFrz, frz, sAug, ex_ok, ex_err, ex_bad, then_nx, then_ret, then_brk, then_ct, then_err, optG_some, optG_none, tName, setD, tTupG, tsCons, tsNil, Option.bind_some, List.getElem?_cons_zero, List.getElem?_cons_succ, List.set_cons_zero, List.set_cons_succ, List.length_cons, List.length_nil, Bool.not_true, Bool.not_false, Bool.false_eq_true, if_true, if_false, reduceIte, List.map_cons, List.map_nil, List.cons_append, List.nil_append, List.replicate, Nat.reduceSub, Nat.reduceAdd, Nat.reduceEqDiff, Option.map_some, Option.map_none, outs, Int.reduceAdd, Int.reduceSub, Int.reduceBEq, Int.reduceLT, Int.reduceLE, decide_true, decide_false, beq_self_eq_true, cast_0, cast_1, cast_2, cast_3, cast_4, cast_5, isi_str, isi_tup, addD_i, addI_i, subD_i, leD_i, leD_s, ltD_i, ltD_s, gtD_i, geD_i, eqD_i, neD_i, eqD_b, neD_b, eqD_s, lenD_l, lenD_t, absD_i, intD_i, tupD_l, tupD_t, lstD_l, lstD_t, mkT_0, mkT_1, mkT_2, mkT_3, mkL_0, mkL_1, sized_0, sized_1, ix_0, ix_1, ix_2, isT_t, isT_s, isT_l, isT_i, isT_n, isS_s, isS_t, isS_l, isS_i, isS_n, neD_s, Kd.inj, Mk.inj, Lk.inj, s_km, s_mk, List.length_append, L_c, L_i, L_n, L_a, L_cc, L_ic, L_ii, L_nc, L_ni, L_nn, L_ac, L_ai, L_an, L_aa, mCallO, next_eq, mkL_100, Nat.reduceLeDiff, m4, el, List.length_map, s1, s2, ep, List.map_append]
    obtain ⟨ps', ls', L', z', k1, k2, k3, k5⟩ := sel_for (most := most) r (ps ++ [p]) (ls ++ [l]) L.tail.tail (.dat x) trivial (by rw [List.length_append, List.length_cons, List.length_nil]; omega) (by rw [List.length_append, List.length_cons, List.length_nil]; omega)
      (fun q hq => by
        rcases List.mem_append.mp hq with hq | hq
        · exact h1 q hq
        · rw [List.mem_singleton.mp hq]; exact hp')
    rw [List.length_append, List.length_cons, List.length_nil] at k1 k2
    refine ⟨ps', ls', L', z', by rw [List.length_cons]; omega, by rw [List.length_cons]; omega, k3, ?_⟩
    rw [for_nx (set_no hz rfl) e2, k5]
/-- a drawn selector -/
structure GS (n : Nat) (s : Sel) : Prop where
  ll : s.ls.length + 1 = s.ps.length
  pl : s.ps.length ≤ n
  gp : ∀ p ∈ s.ps, GP p
theorem selector_eq (L : List Nat) {n : Nat} (h0 : 0 < n) (h5 : n ≤ 5) : ∃ (s : Sel) (L' : List Nat), GS n s ∧ F_law_selector [.own (L.map nat), .dat (nat n)] = .ok (sD s) [.own (L'.map nat), .dat (nat n)] := by
  obtain ⟨p, hp, ep⟩ := law_part_eq (L.headD 0)
  have m5 : modD (nat (L.tail.headD 0)) (nat n) = some (nat (L.tail.headD 0 % n)) := mod_nat _ n h0
  have hlt : L.tail.headD 0 % n < n := Nat.mod_lt _ h0
  generalize L.tail.headD 0 % n = c at m5 hlt
  have hr : rng1 [.int (c : Int)] = some (upto 0 c) := by rw [rng1_i (by omega), Int.toNat_natCast]
  obtain ⟨ps, ls, L', z', k1, k2, k3, k5⟩ := sel_for (most := nat n) (upto 0 c) [p] [] L.tail.tail .un trivial (by rw [upto_len, List.length_cons, List.length_nil]; omega) (by rw [upto_len, List.length_nil]; omega) (fun q hq => by rw [List.mem_singleton.mp hq]; exact hp)
  rw [upto_len, List.length_cons, List.length_nil] at k1
  rw [upto_len, List.length_nil] at k2
  refine ⟨⟨ps, ls⟩, L', ⟨by show ls.length + 1 = ps.length; omega, by show ps.length ≤ n; omega, k3⟩, ?_⟩
  refine run_ret (st := [.own (L.map nat), .dat (nat n), .un, .un, .un]) (s := [.own (L'.map nat), .dat (nat n), .own (ps.map pD), .own (ls.map lD), z']) ?_
  unfold g_law_selector
  refine (seq_nx (s1 := [.own (L.tail.map nat), .dat (nat n), .own [pD p], .un, .un]) ?_).trans ?_
  · simp only [mVar, mC, mMap, mMap2, lift_some, lift_none, bind_ok, bind_err, bind_bad, mCons, mNil, mT, asB_bool, asB, mAnd, mOr, mNot, andV_eq, orV_eq, mNotV, mIf, chain_eq, chK_b, mCall, sSeq, sNext, sIf, sRet, sRetN, sDrop, sAsg, sRaise, sFor, sApp, sOwn, setO, ownAt, mOwn1, mPop0, sFrz, frz, sAug, ex_ok, ex_err, ex_bad, then_nx, then_ret, then_brk, then_ct, then_err, optG_some, optG_none, tName, setD, tTupG, tsCons, tsNil, Option.bind_some, List.getElem?_cons_zero, List.getElem?_cons_succ, List.set_cons_zero, List.set_cons_succ, List.length_cons, List.length_nil, Bool.not_true, Bool.not_false, Bool.false_eq_true, if_true, if_false, reduceIte, List.map_cons, List.map_nil, List.cons_append, List.nil_append, List.replicate, Nat.reduceSub, Nat.reduceAdd, Nat.reduceEqDiff, Option.map_some, Option.map_none, outs, Int.reduceAdd, Int.reduceSub, Int.reduceBEq, Int.reduceLT, Int.reduceLE, decide_true, decide_false, beq_self_eq_true, cast_0, cast_1, cast_2, cast_3, cast_4, cast_5, isi_str, isi_tup, addD_i, addI_i, subD_i, leD_i, leD_s, ltD_i, ltD_s, gtD_i, geD_i, eqD_i, neD_i, eqD_b, neD_b, eqD_s, lenD_l, lenD_t, absD_i, intD_i, tupD_l, tupD_t, lstD_l, lstD_t, mkT_0, mkT_1, mkT_2, mkT_3, mkL_0, mkL_1, sized_0, sized_1, ix_0, ix_1, ix_2, isT_t, isT_s, isT_l, isT_i, isT_n, isS_s, isS_t, isS_l, isS_i, isS_n, neD_s, Kd.inj, Mk.inj, Lk.inj, s_km, s_mk, List.length_append, L_c, L_i, L_n, L_a, L_cc, L_ic, L_ii, L_nc, L_ni, L_nn, L_ac, L_ai, L_an, L_aa, mCallO, next_eq, ep]
  refine (seq_nx (s1 := [.own (L.tail.map nat), .dat (nat n), .own [pD p], .own [], .un]) ?_).trans ?_
  · simp only [mVar, mC, mMap, mMap2, lift_some, lift_none, bind_ok, bind_err, bind_bad, mCons, mNil, mT, asB_bool, asB, mAnd, mOr, mNot, andV_eq, orV_eq, mNotV, mIf, chain_eq, chK_b, mCall, sSeq, sNext, sIf, sRet, sRetN, sDrop, sAsg, sRaise, sFor, sApp, sOwn, setO, ownAt, mOwn1, mPop0, sFrz, frz, sAug, ex_ok, ex_err, ex_bad, then_nx, then_ret, then_brk, then_ct, then_err, optG_some, optG_none, tName, setD, tTupG, tsCons, tsNil, Option.bind_some, List.getElem?_cons_zero, List.getElem?_cons_succ, List.set_cons_zero, List.set_cons_succ, List.length_cons, List.length_nil, Bool.not_true, Bool.not_false, Bool.false_eq_true, if_true, if_false, reduceIte, List.map_cons, List.map_nil, List.cons_append, List.nil_append, List.replicate, Nat.reduceSub, Nat.reduceAdd, Nat.reduceEqDiff, Option.map_some, Option.map_none, outs, Int.reduceAdd, Int.reduceSub, Int.reduceBEq, Int.reduceLT, Int.reduceLE, decide_true, decide_false, beq_self_eq_true, cast_0, cast_1, cast_2, cast_3, cast_4, cast_5, isi_str, isi_tup, addD_i, addI_i, subD_i, leD_i, leD_s, ltD_i, ltD_s, gtD_i, geD_i, eqD_i, neD_i, eqD_b, neD_b, eqD_s, lenD_l, lenD_t, absD_i, intD_i, tupD_l, tupD_t, lstD_l, lstD_t, mkT_0, mkT_1, mkT_2, mkT_3, mkL_0, mkL_1, sized_0, sized_1, ix_0, ix_1, ix_2, isT_t, isT_s, isT_l, isT_i, isT_n, isS_s, isS_t, isS_l, isS_i, isS_n, neD_s, Kd.inj, Mk.inj, Lk.inj, s_km, s_mk, List.length_append, L_c, L_i, L_n, L_a, L_cc, L_ic, L_ii, L_nc, L_ni, L_nn, L_ac, L_ai, L_an, L_aa]
  refine (seq_nx (s1 := [.own (L'.map nat), .dat (nat n), .own (ps.map pD), .own (ls.map lD), z']) ?_).trans ?_
  · simp only [mVar, mC, mMap, mMap2, lift_some, lift_none, bind_ok, bind_err, bind_bad, mCons, mNil, mT, asB_bool, asB, mAnd, mOr, mNot, andV_eq, orV_eq, mNotV, mIf, chain_eq, chK_b, mCall, sSeq, sNext, sIf, sRet, sRetN, sDrop, sAsg, sRaise, sFor, sApp, sOwn, setO, ownAt, mOwn1, mPop0, sFrz, frz, sAug, ex_ok, ex_err, ex_bad, then_nx, then_ret, then_brk, then_ct, then_err, optG_some, optG_none, tName, setD, tTupG, tsCons, tsNil, Option.bind_some, List.getElem?_cons_zero, List.getElem?_cons_succ, List.set_cons_zero, List.set_cons_succ, List.length_cons, List.length_nil, Bool.not_true, Bool.not_false, Bool.false_eq_true, if_true, if_false, reduceIte, List.map_cons, List.map_nil, List.cons_append, List.nil_append, List.replicate, Nat.reduceSub, Nat.reduceAdd, Nat.reduceEqDiff, Option.map_some, Option.map_none, outs, Int.reduceAdd, Int.reduceSub, Int.reduceBEq, Int.reduceLT, Int.reduceLE, decide_true, decide_false, beq_self_eq_true, cast_0, cast_1, cast_2, cast_3, cast_4, cast_5, isi_str, isi_tup, addD_i, addI_i, subD_i, leD_i, leD_s, ltD_i, ltD_s, gtD_i, geD_i, eqD_i, neD_i, eqD_b, neD_b, eqD_s, lenD_l, lenD_t, absD_i, intD_i, tupD_l, tupD_t, lstD_l, lstD_t, mkT_0, mkT_1, mkT_2, mkT_3, mkL_0, mkL_1, sized_0, sized_1, ix_0, ix_1, ix_2, isT_t, isT_s, isT_l, isT_i, isT_n, isS_s, isS_t, isS_l, isS_i, isS_n, neD_s, Kd.inj, Mk.inj, Lk.inj, s_km, s_mk, List.length_append, L_c, L_i, L_n, L_a, L_cc, L_ic, L_ii, L_nc, L_ni, L_nn, L_ac, L_ai, L_an, L_aa, mCallO, next_eq, m5, hr]
    exact k5
  simp only [mVar, mC, mMap, mMap2, lift_some, lift_none, bind_ok, bind_err, bind_bad, mCons, mNil, mT, asB_bool, asB, mAnd, mOr, mNot, andV_eq, orV_eq, mNotV, mIf, chain_eq, chK_b, mCall, sSeq, sNext, sIf, sRet, sRetN, sDrop, sAsg, sRaise, sFor, sApp, sOwn, setO, ownAt, mOwn1, mPop0, sFrz, frz, sAug, ex_ok, ex_err, ex_bad, then_nx, then_ret, then_brk, then_ct, then_err, optG_some, optG_none, tName, setD, tTupG, tsCons, tsNil, Option.bind_some, List.getElem?_cons_zero, List.getElem?_cons_succ, List.set_cons_zero, List.set_cons_succ, List.length_cons, List.length_nil, Bool.not_true, Bool.not_false, Bool.false_eq_true, if_true, if_false, reduceIte, List.map_cons, List.map_nil, List.cons_append, List.nil_append, List.replicate, Nat.reduceSub, Nat.reduceAdd, Nat.reduceEqDiff, Option.map_some, Option.map_none, outs, Int.reduceAdd, Int.reduceSub, Int.reduceBEq, Int.reduceLT, Int.reduceLE, decide_true, decide_false, beq_self_eq_true, cast_0, cast_1, cast_2, cast_3, cast_4, cast_5, isi_str, isi_tup, addD_i, addI_i, subD_i, leD_i, leD_s, ltD_i, ltD_s, gtD_i, geD_i, eqD_i, neD_i, eqD_b, neD_b, eqD_s, lenD_l, lenD_t, absD_i, intD_i, tupD_l, tupD_t, lstD_l, lstD_t, mkT_0, mkT_1, mkT_2, mkT_3, mkL_0, mkL_1, sized_0, sized_1, ix_0, ix_1, ix_2, isT_t, isT_s, isT_l, isT_i, isT_n, isS_s, isS_t, isS_l, isS_i, isS_n, neD_s, Kd.inj, Mk.inj, Lk.inj, s_km, s_mk, List.length_append, L_c, L_i, L_n, L_a, L_cc, L_ic, L_ii, L_nc, L_ni, L_nn, L_ac, L_ai, L_an, L_aa]
  rfl
theorem GP.ml {p : Part} (h : GP p) : p.m.length ≤ 2 := by
  have := h.m
  simp only [marksL, List.mem_cons, List.not_mem_nil, or_false] at this
  rcases this with h | h | h | h | h <;> rw [h] <;> decide
end DL

namespace DL
open PySem PySem.Spec L2
open PySem.W (dataLe)
/-! ### sorting names -/
theorem leS_trans (a b c : Str) (h1 : leS a b = true) (h2 : leS b c = true) : leS a c = true := by
  unfold leS at *
  rw [decide_eq_true_eq] at *
  exact List.le_trans h1 h2
theorem leS_total (a b : Str) : (leS a b || leS b a) = true := by
  unfold leS
  rw [Bool.or_eq_true, decide_eq_true_eq, decide_eq_true_eq]
  exact List.le_total _ _
theorem leS_anti (a b : Str) (h1 : leS a b = true) (h2 : leS b a = true) : a = b := by
  unfold leS at *
  rw [decide_eq_true_eq] at *
  have e := List.le_antisymm h1 h2
  obtain ⟨⟨x⟩⟩ := a
  obtain ⟨⟨y⟩⟩ := b
  have e : x = y := e
  rw [e]
theorem sort_perm {xs ys : List Str} (h : xs.Perm ys) : xs.mergeSort leS = ys.mergeSort leS := by
  refine List.Perm.eq_of_pairwise (le := fun a b => leS a b = true) (fun a b _ _ h1 h2 => leS_anti a b h1 h2) (List.pairwise_mergeSort leS_trans leS_total xs) (List.pairwise_mergeSort leS_trans leS_total ys) ?_
  exact (List.mergeSort_perm xs leS).trans (h.trans (List.mergeSort_perm ys leS).symm)
theorem ded_perm {xs ys : List Str} (h : ∀ x, x ∈ xs ↔ x ∈ ys) : (ded xs).Perm (ded ys) := (List.perm_ext_iff_of_nodup (nodup_ded xs) (nodup_ded ys)).mpr fun x => by rw [mem_ded, mem_ded]; exact h x
theorem parts_app (a b : List TS) : parts (a ++ b) = parts a ++ parts b := by unfold parts; rw [List.flatMap_append]
theorem kAll_app (a b : List TS) : kAll (a ++ b) = kAll a ++ kAll b := by unfold kAll; rw [parts_app, List.flatMap_append]
theorem mAll_app (a b : List TS) : mAll (a ++ b) = mAll a ++ mAll b := by unfold mAll; rw [parts_app, List.flatMap_append]
theorem skn_comm (a b : List TS) : skn (a ++ b) = skn (b ++ a) := sort_perm (ded_perm fun x => by rw [kAll_app, kAll_app, List.mem_append, List.mem_append]; exact Or.comm)
theorem smn_comm (a b : List TS) : smn (a ++ b) = smn (b ++ a) := sort_perm (ded_perm fun x => by rw [mAll_app, mAll_app, List.mem_append, List.mem_append]; exact Or.comm)
theorem mem_sort {xs : List Str} {x : Str} : x ∈ xs.mergeSort leS ↔ x ∈ xs := (List.mergeSort_perm xs leS).mem_iff
theorem mem_skn {a : List TS} {x : Str} : x ∈ skn a ↔ x ∈ kAll a := mem_sort.trans (mem_ded _ _)
theorem mem_smn {a : List TS} {x : Str} : x ∈ smn a ↔ x ∈ mAll a := mem_sort.trans (mem_ded _ _)
theorem nodup_sub_len {xs : List Str} (h : xs.Nodup) {ys : List Str} (hs : ∀ x ∈ xs, x ∈ ys) : xs.length ≤ ys.length := by
  induction xs generalizing ys with
  | nil => exact Nat.zero_le _
  | cons x r ih =>
    obtain ⟨hx, hr⟩ := List.nodup_cons.mp h
    have hxy := hs x List.mem_cons_self
    have := ih hr (ys := ys.erase x) fun y hy => (List.mem_erase_of_ne (fun e => hx (by rw [← e]; exact hy))).mpr (hs y (List.mem_cons_of_mem _ hy))
    rw [List.length_erase_of_mem hxy] at this
    have := List.length_pos_of_mem hxy
    rw [List.length_cons]
    omega
theorem skn_len {a : List TS} {ys : List Str} (h : ∀ x ∈ kAll a, x ∈ ys) : (skn a).length ≤ ys.length := by
  rw [List.length_mergeSort]
  exact nodup_sub_len (nodup_ded _) fun x hx => h x ((mem_ded _ _).mp hx)
theorem smn_len {a : List TS} {ys : List Str} (h : ∀ x ∈ mAll a, x ∈ ys) : (smn a).length ≤ ys.length := by
  rw [List.length_mergeSort]
  exact nodup_sub_len (nodup_ded _) fun x hx => h x ((mem_ded _ _).mp hx)
/-! ### drawn selectors over texts -/
def toN : Tst → Bool × Str
  | .kind k => (false, k.s)
  | .mark m => (true, m.s)
def toTP (p : Part) : TP := ⟨p.k.map Kd.s, p.m.map Mk.s, p.n.map toN, [nat p.s, nat p.f]⟩
def toTS (s : Sel) : TS := ⟨s.ps.map toTP, .tuple (s.ls.map lD)⟩
theorem tD_toN (t : Tst) : tD t = tnD (toN t) := by cases t <;> rfl
theorem pD_toTP (p : Part) : pD p = tpD (toTP p) := by
  obtain ⟨k, m, n, s, f⟩ := p
  show PyData.tuple [okD k, .tuple (m.map mD), .tuple (n.map tD), nat s, nat f] = .tuple [okS (k.map Kd.s), .tuple ((m.map Mk.s).map .str), .tuple ((n.map toN).map tnD), nat s, nat f]
  have h1 : okD k = okS (k.map Kd.s) := by cases k <;> rfl
  have h2 : m.map mD = (m.map Mk.s).map .str := by rw [List.map_map]; rfl
  have h3 : n.map tD = (n.map toN).map tnD := by rw [List.map_map]; exact List.map_congr_left fun x _ => tD_toN x
  rw [h1, h2, h3]
theorem sD_toTS (s : Sel) : sD s = tsD (toTS s) := by
  show PyData.tuple [.tuple (s.ps.map pD), .tuple (s.ls.map lD)] = .tuple [.tuple ((s.ps.map toTP).map tpD), .tuple (s.ls.map lD)]
  rw [List.map_map, show s.ps.map pD = s.ps.map (tpD ∘ toTP) from List.map_congr_left fun x _ => pD_toTP x]
theorem sDs_toTS (a : List Sel) : PyData.tuple (a.map sD) = tssD (a.map toTS) := by
  unfold tssD
  rw [List.map_map, show a.map sD = a.map (tsD ∘ toTS) from List.map_congr_left fun x _ => sD_toTS x]
/-- what is known of a drawn part -/
structure GTP (p : TP) : Prop where
  k : ∀ x ∈ kOf p, x ∈ [Kd.a.s, Kd.b.s, Kd.c.s]
  m : ∀ x ∈ mOf p, x ∈ [Mk.x.s, Mk.y.s]
  kl : (kOf p).length ≤ 5
  ml : (mOf p).length ≤ 5
  nl : p.n.length ≤ 2 ∧ p.m.length ≤ 2
def gtpB (p : TP) : Bool := ((kOf p).all fun x => decide (x ∈ [Kd.a.s, Kd.b.s, Kd.c.s])) && (((mOf p).all fun x => decide (x ∈ [Mk.x.s, Mk.y.s])) && (decide ((kOf p).length ≤ 5) && (decide ((mOf p).length ≤ 5) && (decide (p.n.length ≤ 2) && decide (p.m.length ≤ 2)))))
theorem gtp_all : (kindsL.all fun k => marksL.all fun m => notsL.all fun n => gtpB (toTP ⟨k, m, n, 0, 0⟩)) = true := by decide +kernel
theorem gtp_of {p : Part} (h : GP p) : GTP (toTP p) := by
  obtain ⟨k, m, n, s, f⟩ := p
  have c3 := List.all_eq_true.mp (List.all_eq_true.mp (List.all_eq_true.mp gtp_all k h.k) m h.m) n h.n
  unfold gtpB at c3
  simp only [Bool.and_eq_true, decide_eq_true_eq, List.all_eq_true] at c3
  obtain ⟨a1, a2, a3, a4, a5, a6⟩ := c3
  exact ⟨a1, a2, a3, a4, a5, a6⟩
/-- what is known of a drawn list -/
structure GL (a : List TS) : Prop where
  l : a.length ≤ 3
  p : ∀ s ∈ a, s.ps.length ≤ 3 ∧ ∀ p ∈ s.ps, GTP p
theorem gl_of {a : List Sel} (h : ∀ s ∈ a, GS 3 s) (hl : a.length ≤ 3) : GL (a.map toTS) := ⟨by rw [List.length_map]; exact hl, fun s hs => by
  obtain ⟨t, ht, rfl⟩ := List.mem_map.mp hs
  have g := h t ht
  refine ⟨by show (t.ps.map toTP).length ≤ 3; rw [List.length_map]; exact g.pl, fun p hp => ?_⟩
  obtain ⟨q, hq, rfl⟩ := List.mem_map.mp hp
  exact gtp_of (g.gp q hq)⟩
theorem flat_le {α β : Type} {f : α → List β} {n : Nat} : ∀ {xs : List α}, (∀ x ∈ xs, (f x).length ≤ n) → (xs.flatMap f).length ≤ xs.length * n
  | [], _ => by simp
  | x :: r, h => by
    have h1 := h x List.mem_cons_self
    have h2 := flat_le (xs := r) fun y hy => h y (List.mem_cons_of_mem _ hy)
    rw [List.flatMap_cons, List.length_append, List.length_cons, Nat.succ_mul]
    omega
theorem GL.pl {a : List TS} (h : GL a) : (parts a).length ≤ 9 := by
  have := flat_le (f := fun s : TS => s.ps) (n := 3) (xs := a) fun s hs => (h.p s hs).1
  have := h.l
  show (a.flatMap _).length ≤ 9
  omega
theorem GL.gp {a : List TS} (h : GL a) : ∀ p ∈ parts a, GTP p := fun p hp => by
  obtain ⟨s, hs, hp⟩ := List.mem_flatMap.mp hp
  exact (h.p s hs).2 p hp
theorem GL.kl {a : List TS} (h : GL a) : (kAll a).length ≤ 45 := by
  have := flat_le (f := kOf) (n := 5) (xs := parts a) fun p hp => (h.gp p hp).kl
  have := h.pl
  show ((parts a).flatMap _).length ≤ 45
  omega
theorem GL.ml {a : List TS} (h : GL a) : (mAll a).length ≤ 45 := by
  have := flat_le (f := mOf) (n := 5) (xs := parts a) fun p hp => (h.gp p hp).ml
  have := h.pl
  show ((parts a).flatMap _).length ≤ 45
  omega
theorem GL.km {a : List TS} (h : GL a) : ∀ x ∈ kAll a, x ∈ [Kd.a.s, Kd.b.s, Kd.c.s] := fun x hx => by
  obtain ⟨p, hp, hx⟩ := List.mem_flatMap.mp hx
  exact (h.gp p hp).k x hx
theorem GL.mm {a : List TS} (h : GL a) : ∀ x ∈ mAll a, x ∈ [Mk.x.s, Mk.y.s] := fun x hx => by
  obtain ⟨p, hp, hx⟩ := List.mem_flatMap.mp hx
  exact (h.gp p hp).m x hx
section
variable {a b : List TS}
theorem GL.bd (ha : GL a) (hb : GL b) : Bd1 a b := by
  have h1 := ha.pl
  have h2 := hb.pl
  have h3 := ha.kl
  have h4 := hb.kl
  have h5 := ha.ml
  have h6 := hb.ml
  have h7 := ha.l
  have h8 := hb.l
  refine ⟨by omega, by rw [parts_app, List.length_append]; omega, by rw [kAll_app, List.length_append]; omega, by rw [mAll_app, List.length_append]; omega, fun p hp => ?_⟩
  rw [parts_app] at hp
  rcases List.mem_append.mp hp with hp | hp
  · have := (ha.gp p hp).nl; omega
  · have := (hb.gp p hp).nl; omega
theorem GL.k3 (ha : GL a) (hb : GL b) : (skn (a ++ b)).length ≤ 3 := skn_len (ys := [Kd.a.s, Kd.b.s, Kd.c.s]) fun x hx => by
  rw [kAll_app] at hx
  rcases List.mem_append.mp hx with hx | hx
  · exact ha.km x hx
  · exact hb.km x hx
theorem GL.m2 (ha : GL a) (hb : GL b) : (smn (a ++ b)).length ≤ 2 := smn_len (ys := [Mk.x.s, Mk.y.s]) fun x hx => by
  rw [mAll_app] at hx
  rcases List.mem_append.mp hx with hx | hx
  · exact ha.mm x hx
  · exact hb.mm x hx
theorem z_abc : ("z" : Str) ∉ [Kd.a.s, Kd.b.s, Kd.c.s] := by decide +kernel
theorem GL.z (ha : GL a) (hb : GL b) : ("z" : Str) ∉ skn (a ++ b) := fun h => by
  have h := mem_skn.mp h
  rw [kAll_app] at h
  rcases List.mem_append.mp h with hx | hx
  · exact z_abc (ha.km _ hx)
  · exact z_abc (hb.km _ hx)
abbrev alph (a b : List TS) : List Pr := LT (skn (a ++ b)) (smn (a ++ b))
theorem drawn_letters (ha : GL a) (hb : GL b) : F_letters [.dat (tssD a), .dat (tssD b)] = .ok (.list ((alph a b).map dPr)) [.dat (tssD a), .dat (tssD b)] :=
  letters_eq (ha.bd hb) (by have := ha.k3 hb; omega) (by have := ha.m2 hb; omega) (ha.z hb)
theorem drawn_letters' (ha : GL a) (hb : GL b) : F_letters [.dat (tssD b), .dat (tssD a)] = .ok (.list ((alph a b).map dPr)) [.dat (tssD b), .dat (tssD a)] := by
  have := drawn_letters hb ha
  unfold alph at *
  rw [skn_comm b a, smn_comm b a] at this
  exact this
theorem drawn_law_letters (ha : GL a) (hb : GL b) : F_law_letters [.dat (tssD (a ++ b))] = .ok (.list ((alph a b).map dPr)) [.dat (tssD (a ++ b))] := by
  have h3 := ha.kl
  have h4 := hb.kl
  have h5 := ha.ml
  have h6 := hb.ml
  refine law_letters_eq (by rw [kAll_app, List.length_append]; omega) (by rw [mAll_app, List.length_append]; omega) (fun p hp => ?_) (by have := ha.k3 hb; omega) (by have := ha.m2 hb; omega) (ha.z hb)
  rw [parts_app] at hp
  rcases List.mem_append.mp hp with hp | hp
  · have := (ha.gp p hp).nl; omega
  · have := (hb.gp p hp).nl; omega
end
/-! letters: what they are -/
theorem LT_mem {ks ms : List Str} {p : Pr} (h : p ∈ LT ks ms) : p ∈ prs ks ms := (List.mergeSort_perm _ _).mem_iff.mp h
theorem LT_len (ks ms : List Str) : (LT ks ms).length = (prs ks ms).length := List.length_mergeSort _
theorem prs_pos (ks ms : List Str) : 0 < (prs ks ms).length := by
  have hb := subs_b ms
  unfold prs
  rw [flat_len (n := 2 ^ ms.length) fun x _ => by rw [List.length_map, hb.1], List.length_append, List.length_singleton]
  exact Nat.mul_pos (by omega) (Nat.pow_pos (by decide))
theorem LT_parts {ks ms : List Str} {p : Pr} (h : p ∈ LT ks ms) : (p.1 ∈ ks ∨ p.1 = "z") ∧ (∀ x ∈ p.2, x ∈ ms) ∧ p.2.length ≤ ms.length := by
  obtain ⟨k, hk, h⟩ := List.mem_flatMap.mp (LT_mem h)
  obtain ⟨r, hr, rfl⟩ := List.mem_map.mp h
  refine ⟨?_, subs_mem ms r hr, (subs_b ms).2 r hr⟩
  rcases List.mem_append.mp hk with hk | hk
  · exact .inl hk
  · exact .inr (List.mem_singleton.mp hk)
end DL

namespace DL
open PySem PySem.Spec L2
open PySem.W (dataLe)
theorem lay_all : ∀ cs : List D, (∀ c ∈ cs, c.canLay0 = true) → PyData.canLayAll0 cs = true
  | [], _ => rfl
  | c :: r, h => by
    show (c.canLay0 && PyData.canLayAll0 r) = true
    rw [h c List.mem_cons_self, lay_all r fun c hc => h c (List.mem_cons_of_mem _ hc)]
    rfl
theorem depth_all {b : Nat} : ∀ cs : List D, (∀ c ∈ cs, c.depth ≤ b) → PyData.depthAll cs ≤ b
  | [], _ => Nat.zero_le _
  | c :: r, h => by
    show max c.depth (PyData.depthAll r) ≤ b
    have h1 := h c List.mem_cons_self
    have h2 := depth_all r fun c hc => h c (List.mem_cons_of_mem _ hc)
    omega
theorem shaped_of {d : D} (h : d.canLay0 = true) (h2 : d.depth ≤ 64) : SeqAt.shaped d = true := Bool.and_eq_true_iff.mpr ⟨h, decide_eq_true h2⟩
def Lay (b : Nat) (d : D) : Prop := d.canLay0 = true ∧ d.depth ≤ b
theorem lay_tup {b : Nat} {ds : List D} (h : ∀ d ∈ ds, Lay b d) : Lay (b + 1) (.tuple ds) := by
  constructor
  · show PyData.canLayAll0 ds = true
    exact lay_all ds fun d hd => (h d hd).1
  · have := depth_all (b := b) ds fun d hd => (h d hd).2
    show PyData.depthAll ds + 1 ≤ b + 1
    omega
theorem lay_lst {b : Nat} {ds : List D} (h : ∀ d ∈ ds, Lay b d) : Lay (b + 1) (.list ds) := lay_tup h
theorem Lay.up {a b : Nat} {d : D} (h : Lay a d) (hb : a ≤ b) : Lay b d := ⟨h.1, Nat.le_trans h.2 hb⟩
theorem Lay.shaped {b : Nat} {d : D} (h : Lay b d) (hb : b ≤ 64 := by decide) : SeqAt.shaped d = true := shaped_of h.1 (Nat.le_trans h.2 hb)
theorem eq_refl' {d : D} (h : SeqAt.shaped d = true) : eqD d d = some (.bool true) := by
  unfold eqD
  rw [if_pos (.inr ⟨h, h⟩), SeqAt.eqv_refl d (SeqAt.canLay_of_shaped h)]
theorem ne_refl {d : D} (h : SeqAt.shaped d = true) : neD d d = some (.bool false) := by
  unfold neD
  rw [if_pos (.inr ⟨h, h⟩), SeqAt.eqv_refl d (SeqAt.canLay_of_shaped h)]
  rfl
theorem lay_int (i : Int) : Lay 0 (.int i) := ⟨rfl, Nat.le_refl _⟩
theorem lay_bool (b : Bool) : Lay 0 (.bool b) := ⟨rfl, Nat.le_refl _⟩
theorem lay_none : Lay 0 .none := ⟨rfl, Nat.le_refl _⟩
theorem lay_str {x : Str} (h : (PyData.str x).canLay0 = true) : Lay 0 (.str x) := ⟨h, Nat.le_refl _⟩
theorem lay_strs {xs : List Str} (h : ∀ x ∈ xs, (PyData.str x).canLay0 = true) : Lay 1 (rowD xs) := lay_tup fun d hd => by
  obtain ⟨x, hx, rfl⟩ := List.mem_map.mp hd
  exact lay_str (h x hx)
theorem lay_pl (p : List Nat) : Lay 1 (plD p) := lay_tup fun d hd => by
  obtain ⟨m, _, rfl⟩ := List.mem_map.mp hd
  exact lay_int m
/-- a letter's texts have a layout -/
structure LP (p : Pr) : Prop where
  k : (PyData.str p.1).canLay0 = true
  m : ∀ x ∈ p.2, (PyData.str x).canLay0 = true
theorem lay_dPr {p : Pr} (h : LP p) : Lay 2 (dPr p) := lay_tup fun d hd => by
  rcases List.mem_cons.mp hd with rfl | hd
  · exact (lay_str h.k).up (by decide)
  · rw [List.mem_singleton.mp hd]
    exact lay_strs h.m
theorem lay_dPrs {ps : List Pr} (h : ∀ p ∈ ps, LP p) : Lay 3 (.list (ps.map dPr)) := lay_lst fun d hd => by
  obtain ⟨p, hp, rfl⟩ := List.mem_map.mp hd
  exact lay_dPr (h p hp)
section
variable {mv : Nat → Bool} {lt : Nat → Pr}
theorem lay_nd {k b : Nat} {c : List D} (h : LP (lt k)) (hc : ∀ d ∈ c, Lay b d) : Lay (b + 2) (nd lt k c) := lay_tup fun d hd => by
  rcases List.mem_cons.mp hd with rfl | hd
  · exact (lay_str h.k).up (by omega)
  · rcases List.mem_cons.mp hd with rfl | hd
    · exact (lay_strs h.m).up (by omega)
    · rw [List.mem_singleton.mp hd]
      exact lay_tup hc
theorem lay_dr (h : ∀ k, LP (lt k)) : ∀ f k, Lay (2 * f + 2) (dr mv lt f k).1 ∧ ∀ d ∈ (dr mv lt f k).2, Lay (2 * f + 2) d
  | 0, k => by
    have l0 : Lay (2 * 0 + 2) (nd lt k []) := lay_nd (b := 0) (h k) fun d hd => by cases hd
    exact ⟨l0, fun d hd => by rw [List.mem_singleton.mp hd]; exact l0⟩
  | f + 1, k => by
    obtain ⟨i1, i2⟩ := lay_dr h f (k + 1)
    cases e : mv (k + 1) with
    | true =>
      rw [dr_t e]
      have l0 : Lay (2 * (f + 1) + 2) (nd lt k (dr mv lt f (k + 1)).2) := lay_nd (h k) i2
      exact ⟨l0, fun d hd => by rw [List.mem_singleton.mp hd]; exact l0⟩
    | false =>
      rw [dr_f e]
      have l0 : Lay (2 * (f + 1) + 2) (nd lt k []) := (lay_nd (b := 0) (h k) fun d hd => by cases hd).up (by omega)
      refine ⟨l0, fun d hd => ?_⟩
      rcases List.mem_cons.mp hd with rfl | hd
      · exact l0
      · exact (i2 d hd).up (by omega)
end
/-! ### a drawn walk -/
theorem st_congr {mv mv' : Nat → Bool} {lt lt' : Nat → Pr} {n : Nat} (h : ∀ k, k < n → mv k = mv' k ∧ lt k = lt' k) : (List.range n).map (stD mv lt) = (List.range n).map (stD mv' lt') := by
  refine List.map_congr_left fun k hk => ?_
  obtain ⟨h1, h2⟩ := h k (List.mem_range.mp hk)
  unfold stD moveS
  rw [h1, h2]
def dirS (b : Bool) : Str := if b = true then "down" else "right"
theorem walk_body {L : List Nat} {ps : List Pr} {mv : Nat → Bool} {lt : Nat → Pr} {i : Nat} {x : D} {z4 z5 : Sl} (h4 : NO z4) (h5 : NO z5) (hp : 0 < ps.length) (hi : i ≤ 100) (hl : ∀ k, lt k ∈ ps) (hps : ps.length ≤ 1000) :
    ∃ (b : Bool) (p : Pr) (L' : List Nat) (z4' z5' : Sl), NO z4' ∧ NO z5' ∧ p ∈ ps ∧ (i = 0 → b = true) ∧ b_law_walk_1 [.own (L.map nat), .dat (.list (ps.map dPr)), .own ((List.range (i + 1)).map (stD mv lt)), .dat x, z4, z5] = .nx [.own (L'.map nat), .dat (.list (ps.map dPr)), .own ((List.range (i + 1)).map (stD mv lt) ++ [.tuple [.str (dirS b), dPr p]]), .dat x, z4', z5'] := by
  have nx := next_eq L
  generalize L.headD 0 = d at nx
  generalize L.tail = L' at nx
  obtain ⟨b0, _, eb⟩ := ix_typed (fun b => PyData.str (dirS b)) [true, false] (m := 2) rfl (by decide) d
  have eb : ixD (.list [.str "down", .str "right"]) (nat (d % 2)) = some (.str (dirS b0)) := eb
  obtain ⟨p, hpm, ep⟩ := ix_typed dPr ps (m := ps.length) rfl hp (d / 2)
  have m2 : modD (nat d) (.int 2) = some (nat (d % 2)) := mod_nat d 2 (by decide)
  have d2 : fdivD (nat d) (.int 2) = some (nat (d / 2)) := div_nat d 2 (by decide)
  have ml : modD (nat (d / 2)) (nat ps.length) = some (nat (d / 2 % ps.length)) := mod_nat _ _ hp
  have hlen : ((List.range (i + 1)).map (stD mv lt)).length = i + 1 := by rw [List.length_map, List.length_range]
  have hs : ((List.range (i + 1)).map (stD mv lt)).length < sizeLine := by rw [hlen]; exact Nat.lt_of_lt_of_le (by omega : i + 1 < 10001) (small_line (by decide))
  generalize hW : (List.range (i + 1)).map (stD mv lt) = W at hlen hs
  have ap : ∀ b : Bool, (sApp 2 (mMap (mCons (mVar 5) (mCons (mMap2 (mVar 1) (mMap2 (mMap2 (mVar 4) (mC (.int 2)) fdivD) (mMap (mCons (mVar 1) mNil) lenD) modD) ixD) mNil)) mkT)) [.own (L'.map nat), .dat (.list (ps.map dPr)), .own W, .dat x, .dat (nat d), .dat (.str (dirS b))] = .nx [.own (L'.map nat), .dat (.list (ps.map dPr)), .own (W ++ [.tuple [.str (dirS b), dPr p]]), .dat x, .dat (nat d), .dat (.str (dirS b))] := fun b => by
    simp only [mVar, mC, mMap, mMap2, lift_some, lift_none, bind_ok, bind_err, bind_bad, mCons, mNil, mT, asB_bool, asB, mAnd, mOr, mNot, andV_eq, orV_eq, mNotV, mIf, chain_eq, chK_b, mCall, sSeq, sNext, sIf, sRet, sRetN, sDrop, sAsg, sRaise, sFor, sApp, sOwn, setO, ownAt, mOwn1, mPop0, sFrz, frz, sAug, ex_ok, ex_err, ex_bad, then_nx, then_ret, then_brk, then_ct, then_err, optG_some, optG_none, tName, setD, tTupG, tsCons, tsNil, Option.bind_some, List.getElem?_cons_zero, List.getElem?_cons_succ, List.set_cons_zero, List.set_cons_succ, List.length_cons, List.length_nil, Bool.not_true, Bool.not_false, Bool.false_eq_true, if_true, if_false, reduceIte, List.map_cons, List.map_nil, List.cons_append, List.nil_append, List.replicate, Nat.reduceSub, Nat.reduceAdd, Nat.reduceEqDiff, Option.map_some, Option.map_none, outs, Int.reduceAdd, Int.reduceSub, Int.reduceBEq, Int.reduceLT, Int.reduceLE, decide_true, decide_false, beq_self_eq_true, cast_0, cast_1, cast_2, cast_3, cast_4, cast_5, isi_str, isi_tup, addD_i, addI_i, subD_i, leD_i, leD_s, ltD_i, ltD_s, gtD_i, geD_i, eqD_i, neD_i, eqD_b, neD_b, eqD_s, lenD_l, lenD_t, absD_i, intD_i, tupD_l, tupD_t, lstD_l, lstD_t, mkT_0, mkT_1, mkT_2, mkT_3, mkL_0, mkL_1, sized_0, sized_1, ix_0, ix_1, ix_2, isT_t, isT_s, isT_l, isT_i, isT_n, isS_s, isS_t, isS_l, isS_i, isS_n, neD_s, Kd.inj, Mk.inj, Lk.inj, s_km, s_mk, List.length_append, L_c, L_i, L_n, L_a, L_cc, L_ic, L_ii, L_nc, L_ni, L_nn, L_ac, L_ai, L_an, L_aa, d2, List.length_map, ml, ep]
    rw [if_pos hs]
  have s1 : ∀ g : G, sSeq (sAsg (mCallO 1 0 F_law_next mNil mNil) (tName 4)) g [.own (L.map nat), .dat (.list (ps.map dPr)), .own W, .dat x, z4, z5] = g [.own (L'.map nat), .dat (.list (ps.map dPr)), .own W, .dat x, .dat (nat d), z5] := fun g => seq_nx (by cases z4 <;> first | exact h4.elim | (simp only [mVar, mC, mMap, mMap2, lift_some, lift_none, bind_ok, bind_err, bind_bad, mCons, mNil, mT, asB_bool, asB, mAnd, mOr, mNot, andV_eq, orV_eq, mNotV, mIf, chain_eq, chK_b, mCall, sSeq, sNext, sIf, sRet, sRetN, sDrop, sAsg, sRaise, sFor, sApp, sOwn, setO, ownAt, mOwn1, mPop0, sFrz, frz, sAug, ex_ok, ex_err, ex_bad, then_nx, then_ret, then_brk, then_ct, then_err, optG_some, optG_none, tName, setD, tTupG, tsCons, tsNil, Option.bind_some, List.getElem?_cons_zero, List.getElem?_cons_succ, List.set_cons_zero, List.set_cons_succ, List.length_cons, List.length_nil, Bool.not_true, Bool.not_false, Bool.false_eq_true, if_true, if_false, reduceIte, List.map_cons, List.map_nil, List.cons_append, List.nil_append, List.replicate, Nat.reduceSub, Nat.reduceAdd, Nat.reduceEqDiff, Option.map_some, Option.map_none, outs, Int.reduceAdd, Int.reduceSub, Int.reduceBEq, Int.reduceLT, Int.reduceLE, decide_true, decide_false, beq_self_eq_true, cast_0, cast_1, cast_2, cast_3, cast_4, cast_5, isi_str, isi_tup, addD_i, addI_i, subD_i, leD_i, leD_s, ltD_i, ltD_s, gtD_i, geD_i, eqD_i, neD_i, eqD_b, neD_b, eqD_s, lenD_l, lenD_t, absD_i, intD_i, tupD_l, tupD_t, lstD_l, lstD_t, mkT_0, mkT_1, mkT_2, mkT_3, mkL_0, mkL_1, sized_0, sized_1, ix_0, ix_1, ix_2, isT_t, isT_s, isT_l, isT_i, isT_n, isS_s, isS_t, isS_l, isS_i, isS_n, neD_s, Kd.inj, Mk.inj, Lk.inj, s_km, s_mk, List.length_append, L_c, L_i, L_n, L_a, L_cc, L_ic, L_ii, L_nc, L_ni, L_nn, L_ac, L_ai, L_an, L_aa, mCallO, nx]))
  have s2 : ∀ g : G, sSeq (sAsg (mMap2 (mMap (mCons (mC (.str "down")) (mCons (mC (.str "right")) mNil)) mkL) (mMap2 (mVar 4) (mC (.int 2)) modD) ixD) (tName 5)) g [.own (L'.map nat), .dat (.list (ps.map dPr)), .own W, .dat x, .dat (nat d), z5] = g [.own (L'.map nat), .dat (.list (ps.map dPr)), .own W, .dat x, .dat (nat d), .dat (.str (dirS b0))] := fun g => seq_nx (by cases z5 <;> first | exact h5.elim | (simp only [mVar, mC, mMap, mMap2, lift_some, lift_none, bind_ok, bind_err, bind_bad, mCons, mNil, mT, asB_bool, asB, mAnd, mOr, mNot, andV_eq, orV_eq, mNotV, mIf, chain_eq, chK_b, mCall, sSeq, sNext, sIf, sRet, sRetN, sDrop, sAsg, sRaise, sFor, sApp, sOwn, setO, ownAt, mOwn1, mPop0, sFrz, frz, sAug, ex_ok, ex_err, ex_bad, then_nx, then_ret, then_brk, then_ct, then_err, optG_some, optG_none, tName, setD, tTupG, tsCons, tsNil, Option.bind_some, List.getElem?_cons_zero, List.getElem?_cons_succ, List.set_cons_zero, List.set_cons_succ, List.length_cons, List.length_nil, Bool.not_true, Bool.not_false, Bool.false_eq_true, if_true, if_false, reduceIte, List.map_cons, List.map_nil, List.cons_append, List.nil_append, List.replicate, Nat.reduceSub, Nat.reduceAdd, Nat.reduceEqDiff, Option.map_some, Option.map_none, outs, Int.reduceAdd, Int.reduceSub, Int.reduceBEq, Int.reduceLT, Int.reduceLE, decide_true, decide_false, beq_self_eq_true, cast_0, cast_1, cast_2, cast_3, cast_4, cast_5, isi_str, isi_tup, addD_i, addI_i, subD_i, leD_i, leD_s, ltD_i, ltD_s, gtD_i, geD_i, eqD_i, neD_i, eqD_b, neD_b, eqD_s, lenD_l, lenD_t, absD_i, intD_i, tupD_l, tupD_t, lstD_l, lstD_t, mkT_0, mkT_1, mkT_2, mkT_3, mkL_0, mkL_1, sized_0, sized_1, ix_0, ix_1, ix_2, isT_t, isT_s, isT_l, isT_i, isT_n, isS_s, isS_t, isS_l, isS_i, isS_n, neD_s, Kd.inj, Mk.inj, Lk.inj, s_km, s_mk, List.length_append, L_c, L_i, L_n, L_a, L_cc, L_ic, L_ii, L_nc, L_ni, L_nn, L_ac, L_ai, L_an, L_aa, m2, mkL_100, Nat.reduceLeDiff, eb]))
  by_cases h0 : i = 0
  · subst h0
    refine ⟨true, p, L', .dat (nat d), .dat (.str (dirS true)), trivial, trivial, hpm, fun _ => rfl, ?_⟩
    unfold b_law_walk_1
    rw [s1, s2]
    refine (seq_nx (s1 := [.own (L'.map nat), .dat (.list (ps.map dPr)), .own W, .dat x, .dat (nat d), .dat (.str (dirS true))]) ?_).trans (ap true)
    simp only [mVar, mC, mMap, mMap2, lift_some, lift_none, bind_ok, bind_err, bind_bad, mCons, mNil, mT, asB_bool, asB, mAnd, mOr, mNot, andV_eq, orV_eq, mNotV, mIf, chain_eq, chK_b, mCall, sSeq, sNext, sIf, sRet, sRetN, sDrop, sAsg, sRaise, sFor, sApp, sOwn, setO, ownAt, mOwn1, mPop0, sFrz, frz, sAug, ex_ok, ex_err, ex_bad, then_nx, then_ret, then_brk, then_ct, then_err, optG_some, optG_none, tName, setD, tTupG, tsCons, tsNil, Option.bind_some, List.getElem?_cons_zero, List.getElem?_cons_succ, List.set_cons_zero, List.set_cons_succ, List.length_cons, List.length_nil, Bool.not_true, Bool.not_false, Bool.false_eq_true, if_true, if_false, reduceIte, List.map_cons, List.map_nil, List.cons_append, List.nil_append, List.replicate, Nat.reduceSub, Nat.reduceAdd, Nat.reduceEqDiff, Option.map_some, Option.map_none, outs, Int.reduceAdd, Int.reduceSub, Int.reduceBEq, Int.reduceLT, Int.reduceLE, decide_true, decide_false, beq_self_eq_true, cast_0, cast_1, cast_2, cast_3, cast_4, cast_5, isi_str, isi_tup, addD_i, addI_i, subD_i, leD_i, leD_s, ltD_i, ltD_s, gtD_i, geD_i, eqD_i, neD_i, eqD_b, neD_b, eqD_s, lenD_l, lenD_t, absD_i, intD_i, tupD_l, tupD_t, lstD_l, lstD_t, mkT_0, mkT_1, mkT_2, mkT_3, mkL_0, mkL_1, sized_0, sized_1, ix_0, ix_1, ix_2, isT_t, isT_s, isT_l, isT_i, isT_n, isS_s, isS_t, isS_l, isS_i, isS_n, neD_s, Kd.inj, Mk.inj, Lk.inj, s_km, s_mk, List.length_append, L_c, L_i, L_n, L_a, L_cc, L_ic, L_ii, L_nc, L_ni, L_nn, L_ac, L_ai, L_an, L_aa, hlen]
    rfl
  · refine ⟨b0, p, L', .dat (nat d), .dat (.str (dirS b0)), trivial, trivial, hpm, fun z => absurd z h0, ?_⟩
    unfold b_law_walk_1
    rw [s1, s2]
    have h1 : (((i + 1 : Nat) : Int) == 1) = false := by rw [beq_eq_false_iff_ne]; omega
    refine (seq_nx (s1 := [.own (L'.map nat), .dat (.list (ps.map dPr)), .own W, .dat x, .dat (nat d), .dat (.str (dirS b0))]) ?_).trans (ap b0)
    simp only [mVar, mC, mMap, mMap2, lift_some, lift_none, bind_ok, bind_err, bind_bad, mCons, mNil, mT, asB_bool, asB, mAnd, mOr, mNot, andV_eq, orV_eq, mNotV, mIf, chain_eq, chK_b, mCall, sSeq, sNext, sIf, sRet, sRetN, sDrop, sAsg, sRaise, sFor, sApp, sOwn, setO, ownAt, mOwn1, mPop0, sFrz, frz, sAug, ex_ok, ex_err, ex_bad, then_nx, then_ret, then_brk, then_ct, then_err, optG_some, optG_none, tName, setD, tTupG, tsCons, tsNil, Option.bind_some, List.getElem?_cons_zero, List.getElem?_cons_succ, List.set_cons_zero, List.set_cons_succ, List.length_cons, List.length_nil, Bool.not_true, Bool.not_false, Bool.false_eq_true, if_true, if_false, reduceIte, List.map_cons, List.map_nil, List.cons_append, List.nil_append, List.replicate, Nat.reduceSub, Nat.reduceAdd, Nat.reduceEqDiff, Option.map_some, Option.map_none, outs, Int.reduceAdd, Int.reduceSub, Int.reduceBEq, Int.reduceLT, Int.reduceLE, decide_true, decide_false, beq_self_eq_true, cast_0, cast_1, cast_2, cast_3, cast_4, cast_5, isi_str, isi_tup, addD_i, addI_i, subD_i, leD_i, leD_s, ltD_i, ltD_s, gtD_i, geD_i, eqD_i, neD_i, eqD_b, neD_b, eqD_s, lenD_l, lenD_t, absD_i, intD_i, tupD_l, tupD_t, lstD_l, lstD_t, mkT_0, mkT_1, mkT_2, mkT_3, mkL_0, mkL_1, sized_0, sized_1, ix_0, ix_1, ix_2, isT_t, isT_s, isT_l, isT_i, isT_n, isS_s, isS_t, isS_l, isS_i, isS_n, neD_s, Kd.inj, Mk.inj, Lk.inj, s_km, s_mk, List.length_append, L_c, L_i, L_n, L_a, L_cc, L_ic, L_ii, L_nc, L_ni, L_nn, L_ac, L_ai, L_an, L_aa, hlen, h1]
theorem law_walk_eq (L : List Nat) {ps : List Pr} (hp : 0 < ps.length) (hps : ps.length ≤ 1000) :
    ∃ (mv : Nat → Bool) (lt : Nat → Pr) (n : Nat) (L' : List Nat), 0 < n ∧ n ≤ 9 ∧ (2 ≤ n → mv 1 = true) ∧ (∀ k, lt k ∈ ps) ∧ F_law_walk [.own (L.map nat), .dat (.list (ps.map dPr))] = .ok (wD mv lt n) [.own (L'.map nat), .dat (.list (ps.map dPr))] := by
  have nx := next_eq L
  generalize L.headD 0 = d at nx
  generalize L.tail = L1 at nx
  have nx1 := next_eq L1
  generalize L1.headD 0 = c at nx1
  generalize L1.tail = L2 at nx1
  obtain ⟨p0, hp0, ep⟩ := ix_typed dPr ps (m := ps.length) rfl hp d
  have ml : modD (nat d) (nat ps.length) = some (nat (d % ps.length)) := mod_nat _ _ hp
  have m9 : modD (nat c) (.int 9) = some (nat (c % 9)) := mod_nat c 9 (by decide)
  have hc : c % 9 < 9 := Nat.mod_lt _ (by decide)
  generalize c % 9 = m at m9 hc
  have hr : rng1 [nat m] = some ((List.range m).map nat) := rng_nat (by omega)
  obtain ⟨s', q, mv, lt, L', z3, z4, z5, h1, h2, h3, h4, h5, e⟩ := for_list (t := tName 3) (body := b_law_walk_1) nat (fun i s => ∃ (mv : Nat → Bool) (lt : Nat → Pr) (L' : List Nat) (z3 z4 z5 : Sl), (1 ≤ i → mv 1 = true) ∧ (∀ k, lt k ∈ ps) ∧ NO z3 ∧ NO z4 ∧ NO z5 ∧ s = [.own (L'.map nat), .dat (.list (ps.map dPr)), .own ((List.range (i + 1)).map (stD mv lt)), z3, z4, z5]) (List.range m) 0
    [.own (L2.map nat), .dat (.list (ps.map dPr)), .own [.tuple [.str "root", dPr p0]], .un, .un, .un] ⟨fun _ => true, fun _ => p0, L2, .un, .un, .un, fun h => absurd h (by decide), fun _ => hp0, trivial, trivial, trivial, rfl⟩ (fun k x s hx => by
      obtain ⟨hk, rfl⟩ := range_get hx
      rintro ⟨mv, lt, L', z3, z4, z5, h1, h2, h3, h4, h5, rfl⟩
      rw [Nat.zero_add] at *
      obtain ⟨b, p, L'', z4', z5', k4, k5, hpm, hb, bq⟩ := walk_body (L := L') (mv := mv) (lt := lt) (i := x) (x := nat x) h4 h5 hp (by omega) h2 hps
      refine ⟨_, _, set_no h3 rfl, bq, fun j => if j = x + 1 then b else mv j, fun j => if j = x + 1 then p else lt j, L'', .dat (nat x), z4', z5', fun _ => ?_, fun j => ?_, trivial, k4, k5, ?_⟩
      · show (if 1 = x + 1 then b else mv 1) = true
        by_cases hx0 : x = 0
        · rw [if_pos (by omega)]; exact hb hx0
        · rw [if_neg (by omega)]; exact h1 (by omega)
      · show (if j = x + 1 then p else lt j) ∈ ps
        split
        · exact hpm
        · exact h2 j
      · rw [List.range_succ (n := x + 1), List.map_append, st_congr (mv := mv) (lt := lt) (mv' := fun j => if j = x + 1 then b else mv j) (lt' := fun j => if j = x + 1 then p else lt j) (n := x + 1) fun k hk => by
          show mv k = (if k = x + 1 then b else mv k) ∧ lt k = (if k = x + 1 then p else lt k)
          rw [if_neg (by omega), if_neg (by omega)]
          exact ⟨rfl, rfl⟩]
        have e3 : stD (fun j => if j = x + 1 then b else mv j) (fun j => if j = x + 1 then p else lt j) (x + 1) = .tuple [.str (dirS b), dPr p] := by
          unfold stD moveS dirS
          simp only [if_true, Nat.succ_ne_zero, if_false]
        rw [List.map_cons, List.map_nil, e3])
  rw [Nat.zero_add, List.length_range] at e h1
  subst e
  refine ⟨mv, lt, m + 1, L', by omega, by omega, fun h => h1 (by omega), h2, ?_⟩
  refine run_ret (st := [.own (L.map nat), .dat (.list (ps.map dPr)), .un, .un, .un, .un]) (s := [.own (L'.map nat), .dat (.list (ps.map dPr)), .own ((List.range (m + 1)).map (stD mv lt)), z3, z4, z5]) ?_
  unfold g_law_walk
  refine (seq_nx (s1 := [.own (L1.map nat), .dat (.list (ps.map dPr)), .own [.tuple [.str "root", dPr p0]], .un, .un, .un]) ?_).trans ?_
  · simp only [mVar, mC, mMap, mMap2, lift_some, lift_none, bind_ok, bind_err, bind_bad, mCons, mNil, mT, asB_bool, asB, mAnd, mOr, mNot, andV_eq, orV_eq, mNotV, mIf, chain_eq, chK_b, mCall, sSeq, sNext, sIf, sRet, sRetN, sDrop, sAsg, sRaise, sFor, sApp, sOwn, setO, ownAt, mOwn1, mPop0, sFrz, frz, sAug, ex_ok, ex_err, ex_bad, then_nx, then_ret, then_brk, then_ct, then_err, optG_some, optG_none, tName, setD, tTupG, tsCons, tsNil, Option.bind_some, List.getElem?_cons_zero, List.getElem?_cons_succ, List.set_cons_zero, List.set_cons_succ, List.length_cons, List.length_nil, Bool.not_true, Bool.not_false, Bool.false_eq_true, if_true, if_false, reduceIte, List.map_cons, List.map_nil, List.cons_append, List.nil_append, List.replicate, Nat.reduceSub, Nat.reduceAdd, Nat.reduceEqDiff, Option.map_some, Option.map_none, outs, Int.reduceAdd, Int.reduceSub, Int.reduceBEq, Int.reduceLT, Int.reduceLE, decide_true, decide_false, beq_self_eq_true, cast_0, cast_1, cast_2, cast_3, cast_4, cast_5, isi_str, isi_tup, addD_i, addI_i, subD_i, leD_i, leD_s, ltD_i, ltD_s, gtD_i, geD_i, eqD_i, neD_i, eqD_b, neD_b, eqD_s, lenD_l, lenD_t, absD_i, intD_i, tupD_l, tupD_t, lstD_l, lstD_t, mkT_0, mkT_1, mkT_2, mkT_3, mkL_0, mkL_1, sized_0, sized_1, ix_0, ix_1, ix_2, isT_t, isT_s, isT_l, isT_i, isT_n, isS_s, isS_t, isS_l, isS_i, isS_n, neD_s, Kd.inj, Mk.inj, Lk.inj, s_km, s_mk, List.length_append, L_c, L_i, L_n, L_a, L_cc, L_ic, L_ii, L_nc, L_ni, L_nn, L_ac, L_ai, L_an, L_aa, mCallO, nx, List.length_map, ml, ep]
  refine (seq_nx (sfor_nx (s0 := [.own (L2.map nat), .dat (.list (ps.map dPr)), .own [.tuple [.str "root", dPr p0]], .un, .un, .un]) ?_ q)).trans ?_
  · simp only [mVar, mC, mMap, mMap2, lift_some, lift_none, bind_ok, bind_err, bind_bad, mCons, mNil, mT, asB_bool, asB, mAnd, mOr, mNot, andV_eq, orV_eq, mNotV, mIf, chain_eq, chK_b, mCall, sSeq, sNext, sIf, sRet, sRetN, sDrop, sAsg, sRaise, sFor, sApp, sOwn, setO, ownAt, mOwn1, mPop0, sFrz, frz, sAug, ex_ok, ex_err, ex_bad, then_nx, then_ret, then_brk, then_ct, then_err, optG_some, optG_none, tName, setD, tTupG, tsCons, tsNil, Option.bind_some, List.getElem?_cons_zero, List.getElem?_cons_succ, List.set_cons_zero, List.set_cons_succ, List.length_cons, List.length_nil, Bool.not_true, Bool.not_false, Bool.false_eq_true, if_true, if_false, reduceIte, List.map_cons, List.map_nil, List.cons_append, List.nil_append, List.replicate, Nat.reduceSub, Nat.reduceAdd, Nat.reduceEqDiff, Option.map_some, Option.map_none, outs, Int.reduceAdd, Int.reduceSub, Int.reduceBEq, Int.reduceLT, Int.reduceLE, decide_true, decide_false, beq_self_eq_true, cast_0, cast_1, cast_2, cast_3, cast_4, cast_5, isi_str, isi_tup, addD_i, addI_i, subD_i, leD_i, leD_s, ltD_i, ltD_s, gtD_i, geD_i, eqD_i, neD_i, eqD_b, neD_b, eqD_s, lenD_l, lenD_t, absD_i, intD_i, tupD_l, tupD_t, lstD_l, lstD_t, mkT_0, mkT_1, mkT_2, mkT_3, mkL_0, mkL_1, sized_0, sized_1, ix_0, ix_1, ix_2, isT_t, isT_s, isT_l, isT_i, isT_n, isS_s, isS_t, isS_l, isS_i, isS_n, neD_s, Kd.inj, Mk.inj, Lk.inj, s_km, s_mk, List.length_append, L_c, L_i, L_n, L_a, L_cc, L_ic, L_ii, L_nc, L_ni, L_nn, L_ac, L_ai, L_an, L_aa, mCallO, nx1, m9, hr]
  · simp only [mVar, mC, mMap, mMap2, lift_some, lift_none, bind_ok, bind_err, bind_bad, mCons, mNil, mT, asB_bool, asB, mAnd, mOr, mNot, andV_eq, orV_eq, mNotV, mIf, chain_eq, chK_b, mCall, sSeq, sNext, sIf, sRet, sRetN, sDrop, sAsg, sRaise, sFor, sApp, sOwn, setO, ownAt, mOwn1, mPop0, sFrz, frz, sAug, ex_ok, ex_err, ex_bad, then_nx, then_ret, then_brk, then_ct, then_err, optG_some, optG_none, tName, setD, tTupG, tsCons, tsNil, Option.bind_some, List.getElem?_cons_zero, List.getElem?_cons_succ, List.set_cons_zero, List.set_cons_succ, List.length_cons, List.length_nil, Bool.not_true, Bool.not_false, Bool.false_eq_true, if_true, if_false, reduceIte, List.map_cons, List.map_nil, List.cons_append, List.nil_append, List.replicate, Nat.reduceSub, Nat.reduceAdd, Nat.reduceEqDiff, Option.map_some, Option.map_none, outs, Int.reduceAdd, Int.reduceSub, Int.reduceBEq, Int.reduceLT, Int.reduceLE, decide_true, decide_false, beq_self_eq_true, cast_0, cast_1, cast_2, cast_3, cast_4, cast_5, isi_str, isi_tup, addD_i, addI_i, subD_i, leD_i, leD_s, ltD_i, ltD_s, gtD_i, geD_i, eqD_i, neD_i, eqD_b, neD_b, eqD_s, lenD_l, lenD_t, absD_i, intD_i, tupD_l, tupD_t, lstD_l, lstD_t, mkT_0, mkT_1, mkT_2, mkT_3, mkL_0, mkL_1, sized_0, sized_1, ix_0, ix_1, ix_2, isT_t, isT_s, isT_l, isT_i, isT_n, isS_s, isS_t, isS_l, isS_i, isS_n, neD_s, Kd.inj, Mk.inj, Lk.inj, s_km, s_mk, List.length_append, L_c, L_i, L_n, L_a, L_cc, L_ic, L_ii, L_nc, L_ni, L_nn, L_ac, L_ai, L_an, L_aa]
    rfl
end DL

namespace DL
open PySem PySem.Spec L2
open PySem.W (dataLe)
/-! ### the fixed lists -/
section
variable {a b : List TS}
theorem many_yes (h : Bd1 a b) (hk : 5 < (skn (a ++ b)).length ∨ 4 < (smn (a ++ b)).length) : F_law_many [.dat (tssD a), .dat (tssD b)] = .ok (.bool true) [.dat (tssD a), .dat (tssD b)] := by
  have q := letters_err h hk
  refine run_of (st := [.dat (tssD a), .dat (tssD b)]) ⟨[.dat (tssD a), .dat (tssD b)], ?_, rfl⟩
  unfold g_law_many sTry
  simp only [mVar, mC, mMap, mMap2, lift_some, lift_none, bind_ok, bind_err, bind_bad, mCons, mNil, mT, asB_bool, asB, mAnd, mOr, mNot, andV_eq, orV_eq, mNotV, mIf, chain_eq, chK_b, mCall, sSeq, sNext, sIf, sRet, sRetN, sDrop, sAsg, sRaise, sFor, sApp, sOwn, setO, ownAt, mOwn1, mPop0, sFrz, frz, sAug, ex_ok, ex_err, ex_bad, then_nx, then_ret, then_brk, then_ct, then_err, optG_some, optG_none, tName, setD, tTupG, tsCons, tsNil, Option.bind_some, List.getElem?_cons_zero, List.getElem?_cons_succ, List.set_cons_zero, List.set_cons_succ, List.length_cons, List.length_nil, Bool.not_true, Bool.not_false, Bool.false_eq_true, if_true, if_false, reduceIte, List.map_cons, List.map_nil, List.cons_append, List.nil_append, List.replicate, Nat.reduceSub, Nat.reduceAdd, Nat.reduceEqDiff, Option.map_some, Option.map_none, outs, Int.reduceAdd, Int.reduceSub, Int.reduceBEq, Int.reduceLT, Int.reduceLE, decide_true, decide_false, beq_self_eq_true, cast_0, cast_1, cast_2, cast_3, cast_4, cast_5, isi_str, isi_tup, addD_i, addI_i, subD_i, leD_i, leD_s, ltD_i, ltD_s, gtD_i, geD_i, eqD_i, neD_i, eqD_b, neD_b, eqD_s, lenD_l, lenD_t, absD_i, intD_i, tupD_l, tupD_t, lstD_l, lstD_t, mkT_0, mkT_1, mkT_2, mkT_3, mkL_0, mkL_1, sized_0, sized_1, ix_0, ix_1, ix_2, isT_t, isT_s, isT_l, isT_i, isT_n, isS_s, isS_t, isS_l, isS_i, isS_n, neD_s, Kd.inj, Mk.inj, Lk.inj, s_km, s_mk, List.length_append, L_c, L_i, L_n, L_a, L_cc, L_ic, L_ii, L_nc, L_ni, L_nn, L_ac, L_ai, L_an, L_aa, q]
  rfl
theorem many_no (h : Bd1 a b) (hk : (skn (a ++ b)).length ≤ 5) (hm : (smn (a ++ b)).length ≤ 4) (hz : ("z" : Str) ∉ skn (a ++ b)) : F_law_many [.dat (tssD a), .dat (tssD b)] = .ok (.bool false) [.dat (tssD a), .dat (tssD b)] := by
  have q := letters_eq h hk hm hz
  refine run_of (st := [.dat (tssD a), .dat (tssD b)]) ⟨[.dat (tssD a), .dat (tssD b)], ?_, rfl⟩
  unfold g_law_many sTry
  simp only [mVar, mC, mMap, mMap2, lift_some, lift_none, bind_ok, bind_err, bind_bad, mCons, mNil, mT, asB_bool, asB, mAnd, mOr, mNot, andV_eq, orV_eq, mNotV, mIf, chain_eq, chK_b, mCall, sSeq, sNext, sIf, sRet, sRetN, sDrop, sAsg, sRaise, sFor, sApp, sOwn, setO, ownAt, mOwn1, mPop0, sFrz, frz, sAug, ex_ok, ex_err, ex_bad, then_nx, then_ret, then_brk, then_ct, then_err, optG_some, optG_none, tName, setD, tTupG, tsCons, tsNil, Option.bind_some, List.getElem?_cons_zero, List.getElem?_cons_succ, List.set_cons_zero, List.set_cons_succ, List.length_cons, List.length_nil, Bool.not_true, Bool.not_false, Bool.false_eq_true, if_true, if_false, reduceIte, List.map_cons, List.map_nil, List.cons_append, List.nil_append, List.replicate, Nat.reduceSub, Nat.reduceAdd, Nat.reduceEqDiff, Option.map_some, Option.map_none, outs, Int.reduceAdd, Int.reduceSub, Int.reduceBEq, Int.reduceLT, Int.reduceLE, decide_true, decide_false, beq_self_eq_true, cast_0, cast_1, cast_2, cast_3, cast_4, cast_5, isi_str, isi_tup, addD_i, addI_i, subD_i, leD_i, leD_s, ltD_i, ltD_s, gtD_i, geD_i, eqD_i, neD_i, eqD_b, neD_b, eqD_s, lenD_l, lenD_t, absD_i, intD_i, tupD_l, tupD_t, lstD_l, lstD_t, mkT_0, mkT_1, mkT_2, mkT_3, mkL_0, mkL_1, sized_0, sized_1, ix_0, ix_1, ix_2, isT_t, isT_s, isT_l, isT_i, isT_n, isS_s, isS_t, isS_l, isS_i, isS_n, neD_s, Kd.inj, Mk.inj, Lk.inj, s_km, s_mk, List.length_append, L_c, L_i, L_n, L_a, L_cc, L_ic, L_ii, L_nc, L_ni, L_nn, L_ac, L_ai, L_an, L_aa, q]
end
def oneK (x : Str) : TS := ⟨[⟨some x, [], [], [.int 1, .int 0]⟩], .tuple []⟩
def kindT : List TS := [oneK "a", oneK "b", oneK "c", oneK "d", oneK "e", oneK "f"]
def markT1 : TS := ⟨[⟨none, ["a", "b", "c"], [], [.int 1, .int 0]⟩], .tuple []⟩
def markT2 : TS := ⟨[⟨none, [], [(true, "d"), (true, "e")], [.int 1, .int 0]⟩], .tuple []⟩
def bd1B (a b : List TS) : Bool := decide (a.length + b.length ≤ 1000) && (decide ((parts (a ++ b)).length ≤ 1000) && (decide ((kAll (a ++ b)).length ≤ 1000) && (decide ((mAll (a ++ b)).length ≤ 1000) && ((parts (a ++ b)).all fun p => decide (p.n.length ≤ 100)))))
theorem bd1_by {a b : List TS} (h : bd1B a b = true) : Bd1 a b := by
  unfold bd1B at h
  simp only [Bool.and_eq_true, decide_eq_true_eq, List.all_eq_true] at h
  obtain ⟨a1, a2, a3, a4, a5⟩ := h
  exact ⟨a1, a2, a3, a4, a5⟩
theorem skn_l (a : List TS) : (skn a).length = (ded (kAll a)).length := List.length_mergeSort _
theorem smn_l (a : List TS) : (smn a).length = (ded (mAll a)).length := List.length_mergeSort _
theorem m1 : F_law_many [.dat (tssD kindT), .dat (tssD [])] = .ok (.bool true) [.dat (tssD kindT), .dat (tssD [])] :=
  many_yes (bd1_by (by decide +kernel)) (.inl (by rw [skn_l]; decide +kernel))
theorem m2 : F_law_many [.dat (tssD (kindT.take 3)), .dat (tssD ((kindT.take 5).drop 1))] = .ok (.bool false) [.dat (tssD (kindT.take 3)), .dat (tssD ((kindT.take 5).drop 1))] :=
  many_no (bd1_by (by decide +kernel)) (by rw [skn_l]; decide +kernel) (by rw [smn_l]; decide +kernel) (fun h => absurd (mem_skn.mp h) (by decide +kernel))
theorem m3 : F_law_many [.dat (tssD (kindT.take 3)), .dat (tssD (kindT.drop 3))] = .ok (.bool true) [.dat (tssD (kindT.take 3)), .dat (tssD (kindT.drop 3))] :=
  many_yes (bd1_by (by decide +kernel)) (.inl (by rw [skn_l]; decide +kernel))
theorem m4 : F_law_many [.dat (tssD [markT1]), .dat (tssD [])] = .ok (.bool false) [.dat (tssD [markT1]), .dat (tssD [])] :=
  many_no (bd1_by (by decide +kernel)) (by rw [skn_l]; decide +kernel) (by rw [smn_l]; decide +kernel) (fun h => absurd (mem_skn.mp h) (by decide +kernel))
theorem m5 : F_law_many [.dat (tssD [markT1]), .dat (tssD [markT2])] = .ok (.bool true) [.dat (tssD [markT1]), .dat (tssD [markT2])] :=
  many_yes (bd1_by (by decide +kernel)) (.inr (by rw [smn_l]; decide +kernel))
theorem m6 : F_letters [.dat (.tuple []), .dat (.tuple [])] = .ok (.list [.tuple [.str "z", .tuple []]]) [.dat (.tuple []), .dat (.tuple [])] := by
  have q := letters_eq (a := []) (b := []) (bd1_by (by decide +kernel)) (by rw [skn_l]; decide +kernel) (by rw [smn_l]; decide +kernel) (fun h => absurd (mem_skn.mp h) (by decide +kernel))
  have e1 : skn ([] ++ []) = [] := List.mergeSort_nil
  have e2 : smn ([] ++ []) = [] := List.mergeSort_nil
  have e3 : LT [] [] = [(("z" : Str), ([] : List Str))] := List.mergeSort_singleton _
  rw [e1, e2, e3] at q
  exact q
/-! ### drawn lists -/
theorem sels_lc {e : M D} (he : ∀ s, e s = (mCallO 2 1 F_law_selector mNil (mCons (mC (.int 3)) mNil)) s) {a0 a2 : Sl} {r : Sts} : ∀ (ks : List D) (L : List Nat), ∃ (ss : List Sel) (L' : List Nat), ss.length = ks.length ∧ (∀ s ∈ ss, GS 3 s) ∧ lcG [3] (tName 3) mYes e ks (a0 :: .own (L.map nat) :: a2 :: .un :: r) = .ok (ss.map sD) (a0 :: .own (L'.map nat) :: a2 :: .un :: r)
  | [], L => ⟨[], L, rfl, (fun _ h => by cases h), rfl⟩
  | k :: ks, L => by
    obtain ⟨s, L1, hs, q⟩ := selector_eq L (n := 3) (by decide) (by decide)
    obtain ⟨ss, L', k1, k2, k3⟩ := sels_lc he (a0 := a0) (a2 := a2) (r := r) ks L1
    refine ⟨s :: ss, L', by rw [List.length_cons, List.length_cons, k1], fun x hx => ?_, ?_⟩
    · rcases List.mem_cons.mp hx with e | hx
      · rw [e]; exact hs
      · exact k2 x hx
    · have q : F_law_selector [.own (L.map nat), .dat (.int 3)] = _ := q
      have e1 : e (a0 :: .own (L.map nat) :: a2 :: .dat k :: r) = .ok (sD s) (a0 :: .own (L1.map nat) :: a2 :: .dat k :: r) := by
        rw [he]
        simp only [mVar, mC, mMap, mMap2, lift_some, lift_none, bind_ok, bind_err, bind_bad, mCons, mNil, mT, asB_bool, asB, mAnd, mOr, mNot, andV_eq, orV_eq, mNotV, mIf, chain_eq, chK_b, mCall, sSeq, sNext, sIf, sRet, sRetN, sDrop, sAsg, sRaise, sFor, sApp, sOwn, setO, ownAt, mOwn1, mPop0, sFrz, frz, sAug, ex_ok, ex_err, ex_bad, then_nx, then_ret, then_brk, then_ct, then_err, optG_some, optG_none, tName, setD, tTupG, tsCons, tsNil, Option.bind_some, List.getElem?_cons_zero, List.getElem?_cons_succ, List.set_cons_zero, List.set_cons_succ, List.length_cons, List.length_nil, Bool.not_true, Bool.not_false, Bool.false_eq_true, if_true, if_false, reduceIte, List.map_cons, List.map_nil, List.cons_append, List.nil_append, List.replicate, Nat.reduceSub, Nat.reduceAdd, Nat.reduceEqDiff, Option.map_some, Option.map_none, outs, Int.reduceAdd, Int.reduceSub, Int.reduceBEq, Int.reduceLT, Int.reduceLE, decide_true, decide_false, beq_self_eq_true, cast_0, cast_1, cast_2, cast_3, cast_4, cast_5, isi_str, isi_tup, addD_i, addI_i, subD_i, leD_i, leD_s, ltD_i, ltD_s, gtD_i, geD_i, eqD_i, neD_i, eqD_b, neD_b, eqD_s, lenD_l, lenD_t, absD_i, intD_i, tupD_l, tupD_t, lstD_l, lstD_t, mkT_0, mkT_1, mkT_2, mkT_3, mkL_0, mkL_1, sized_0, sized_1, ix_0, ix_1, ix_2, isT_t, isT_s, isT_l, isT_i, isT_n, isS_s, isS_t, isS_l, isS_i, isS_n, neD_s, Kd.inj, Mk.inj, Lk.inj, s_km, s_mk, List.length_append, L_c, L_i, L_n, L_a, L_cc, L_ic, L_ii, L_nc, L_ni, L_nn, L_ac, L_ai, L_an, L_aa, mCallO, q]
      rw [lcG, show tName 3 k (a0 :: .own (L.map nat) :: a2 :: .un :: r) = some (a0 :: .own (L.map nat) :: a2 :: .dat k :: r) from rfl]
      show (Rs.ok true (a0 :: .own (L.map nat) :: a2 :: .dat k :: r)).bind _ = _
      simp only [bind_ok, if_true]
      rw [e1]
      simp only [bind_ok]
      rw [show wipeS (a0 :: .own (L1.map nat) :: a2 :: .dat k :: r) [3] = a0 :: .own (L1.map nat) :: a2 :: .un :: r from rfl, k3]
      rfl
theorem draw_list {e : M D} (he : ∀ s, e s = (mCallO 2 1 F_law_selector mNil (mCons (mC (.int 3)) mNil)) s) {a0 a2 : Sl} {r : Sts} (L : List Nat) : ∃ (a : List TS) (L' : List Nat), GL a ∧ mMap (mCons (mL (mLc [3] (mMap (mCons (mMap2 (mCallO 1 1 F_law_next mNil mNil) (mC (.int 4)) modD) mNil) rng1) (tName 3) mYes e)) mNil) tupD (a0 :: .own (L.map nat) :: a2 :: .un :: r) = .ok (tssD a) (a0 :: .own (L'.map nat) :: a2 :: .un :: r) := by
  have nx := next_eq L
  generalize L.headD 0 = c0 at nx
  generalize L.tail = L1 at nx
  have m3 : modD (nat c0) (.int 4) = some (nat (c0 % 4)) := mod_nat c0 4 (by decide)
  have hc : c0 % 4 < 4 := Nat.mod_lt _ (by decide)
  generalize c0 % 4 = c at m3 hc
  have hr : rng1 [nat c] = some ((List.range c).map nat) := rng_nat (by omega)
  obtain ⟨ss, L2, k1, k2, k3⟩ := sels_lc he (a0 := a0) (a2 := a2) (r := r) ((List.range c).map nat) L1
  rw [List.length_map, List.length_range] at k1
  refine ⟨ss.map toTS, L2, gl_of k2 (by omega), ?_⟩
  have lq := mLc_ok (vs := [3]) (fi := mMap (mCons (mMap2 (mCallO 1 1 F_law_next mNil mNil) (mC (.int 4)) modD) mNil) rng1) (tg := tName 3) (test := mYes) (elt := e) (s := a0 :: .own (L.map nat) :: a2 :: .un :: r) (s1 := a0 :: .own (L1.map nat) :: a2 :: .un :: r) (ds := (List.range c).map nat) (by simp only [mVar, mC, mMap, mMap2, lift_some, lift_none, bind_ok, bind_err, bind_bad, mCons, mNil, mT, asB_bool, asB, mAnd, mOr, mNot, andV_eq, orV_eq, mNotV, mIf, chain_eq, chK_b, mCall, sSeq, sNext, sIf, sRet, sRetN, sDrop, sAsg, sRaise, sFor, sApp, sOwn, setO, ownAt, mOwn1, mPop0, sFrz, frz, sAug, ex_ok, ex_err, ex_bad, then_nx, then_ret, then_brk, then_ct, then_err, optG_some, optG_none, tName, setD, tTupG, tsCons, tsNil, Option.bind_some, List.getElem?_cons_zero, List.getElem?_cons_succ, List.set_cons_zero, List.set_cons_succ, List.length_cons, List.length_nil, Bool.not_true, Bool.not_false, Bool.false_eq_true, if_true, if_false, reduceIte, List.map_cons, List.map_nil, List.cons_append, List.nil_append, List.replicate, Nat.reduceSub, Nat.reduceAdd, Nat.reduceEqDiff, Option.map_some, Option.map_none, outs, Int.reduceAdd, Int.reduceSub, Int.reduceBEq, Int.reduceLT, Int.reduceLE, decide_true, decide_false, beq_self_eq_true, cast_0, cast_1, cast_2, cast_3, cast_4, cast_5, isi_str, isi_tup, addD_i, addI_i, subD_i, leD_i, leD_s, ltD_i, ltD_s, gtD_i, geD_i, eqD_i, neD_i, eqD_b, neD_b, eqD_s, lenD_l, lenD_t, absD_i, intD_i, tupD_l, tupD_t, lstD_l, lstD_t, mkT_0, mkT_1, mkT_2, mkT_3, mkL_0, mkL_1, sized_0, sized_1, ix_0, ix_1, ix_2, isT_t, isT_s, isT_l, isT_i, isT_n, isS_s, isS_t, isS_l, isS_i, isS_n, neD_s, Kd.inj, Mk.inj, Lk.inj, s_km, s_mk, List.length_append, L_c, L_i, L_n, L_a, L_cc, L_ic, L_ii, L_nc, L_ni, L_nn, L_ac, L_ai, L_an, L_aa, mCallO, nx, m3, hr]) rfl k3 (by rw [List.length_map]; exact small_line (by omega)) (s' := a0 :: .own (L2.map nat) :: a2 :: .un :: r) rfl
  simp only [mVar, mC, mMap, mMap2, lift_some, lift_none, bind_ok, bind_err, bind_bad, mCons, mNil, mT, asB_bool, asB, mAnd, mOr, mNot, andV_eq, orV_eq, mNotV, mIf, chain_eq, chK_b, mCall, sSeq, sNext, sIf, sRet, sRetN, sDrop, sAsg, sRaise, sFor, sApp, sOwn, setO, ownAt, mOwn1, mPop0, sFrz, frz, sAug, ex_ok, ex_err, ex_bad, then_nx, then_ret, then_brk, then_ct, then_err, optG_some, optG_none, tName, setD, tTupG, tsCons, tsNil, Option.bind_some, List.getElem?_cons_zero, List.getElem?_cons_succ, List.set_cons_zero, List.set_cons_succ, List.length_cons, List.length_nil, Bool.not_true, Bool.not_false, Bool.false_eq_true, if_true, if_false, reduceIte, List.map_cons, List.map_nil, List.cons_append, List.nil_append, List.replicate, Nat.reduceSub, Nat.reduceAdd, Nat.reduceEqDiff, Option.map_some, Option.map_none, outs, Int.reduceAdd, Int.reduceSub, Int.reduceBEq, Int.reduceLT, Int.reduceLE, decide_true, decide_false, beq_self_eq_true, cast_0, cast_1, cast_2, cast_3, cast_4, cast_5, isi_str, isi_tup, addD_i, addI_i, subD_i, leD_i, leD_s, ltD_i, ltD_s, gtD_i, geD_i, eqD_i, neD_i, eqD_b, neD_b, eqD_s, lenD_l, lenD_t, absD_i, intD_i, tupD_l, tupD_t, lstD_l, lstD_t, mkT_0, mkT_1, mkT_2, mkT_3, mkL_0, mkL_1, sized_0, sized_1, ix_0, ix_1, ix_2, isT_t, isT_s, isT_l, isT_i, isT_n, isS_s, isS_t, isS_l, isS_i, isS_n, neD_s, Kd.inj, Mk.inj, Lk.inj, s_km, s_mk, List.length_append, L_c, L_i, L_n, L_a, L_cc, L_ic, L_ii, L_nc, L_ni, L_nn, L_ac, L_ai, L_an, L_aa, mL, lq]
  rw [← sDs_toTS]
theorem kinds_eq {s0 s1 s2 s4 s5 s6 s7 s8 s9 : Sl} : mMap (mCons (mL (mLc [3] (mMap (mCons (mC (.int 6)) mNil) rng1) (tName 3) mYes e_law_3)) mNil) tupD [s0, s1, s2, .un, s4, s5, s6, s7, s8, s9] = .ok (tssD kindT) [s0, s1, s2, .un, s4, s5, s6, s7, s8, s9] := by
  have hr : rng1 [.int 6] = some ((List.range 6).map nat) := rng_nat (n := 6) (by omega)
  have key : ∀ k, k < 6 → (mMap2 (mC (.str "abcdefz")) (mVar 3) ixD) [s0, s1, s2, .dat (nat k), s4, s5, s6, s7, s8, s9] = .ok (.str ((["a", "b", "c", "d", "e", "f"] : List Str).getD k "")) [s0, s1, s2, .dat (nat k), s4, s5, s6, s7, s8, s9] := fun k hk => by
    have e : ixD (.str "abcdefz") (nat k) = some (.str ((["a", "b", "c", "d", "e", "f"] : List Str).getD k "")) := by
      match k, hk with
      | 0, _ => kernel_rfl
      | 1, _ => kernel_rfl
      | 2, _ => kernel_rfl
      | 3, _ => kernel_rfl
      | 4, _ => kernel_rfl
      | 5, _ => kernel_rfl
    simp only [mVar, mC, mMap, mMap2, lift_some, lift_none, bind_ok, bind_err, bind_bad, mCons, mNil, mT, asB_bool, asB, mAnd, mOr, mNot, andV_eq, orV_eq, mNotV, mIf, chain_eq, chK_b, mCall, sSeq, sNext, sIf, sRet, sRetN, sDrop, sAsg, sRaise, sFor, sApp, sOwn, setO, ownAt, mOwn1, mPop0, sFrz, frz, sAug, ex_ok, ex_err, ex_bad, then_nx, then_ret, then_brk, then_ct, then_err, optG_some, optG_none, tName, setD, tTupG, tsCons, tsNil, Option.bind_some, List.getElem?_cons_zero, List.getElem?_cons_succ, List.set_cons_zero, List.set_cons_succ, List.length_cons, List.length_nil, Bool.not_true, Bool.not_false, Bool.false_eq_true, if_true, if_false, reduceIte, List.map_cons, List.map_nil, List.cons_append, List.nil_append, List.replicate, Nat.reduceSub, Nat.reduceAdd, Nat.reduceEqDiff, Option.map_some, Option.map_none, outs, Int.reduceAdd, Int.reduceSub, Int.reduceBEq, Int.reduceLT, Int.reduceLE, decide_true, decide_false, beq_self_eq_true, cast_0, cast_1, cast_2, cast_3, cast_4, cast_5, isi_str, isi_tup, addD_i, addI_i, subD_i, leD_i, leD_s, ltD_i, ltD_s, gtD_i, geD_i, eqD_i, neD_i, eqD_b, neD_b, eqD_s, lenD_l, lenD_t, absD_i, intD_i, tupD_l, tupD_t, lstD_l, lstD_t, mkT_0, mkT_1, mkT_2, mkT_3, mkL_0, mkL_1, sized_0, sized_1, ix_0, ix_1, ix_2, isT_t, isT_s, isT_l, isT_i, isT_n, isS_s, isS_t, isS_l, isS_i, isS_n, neD_s, Kd.inj, Mk.inj, Lk.inj, s_km, s_mk, List.length_append, L_c, L_i, L_n, L_a, L_cc, L_ic, L_ii, L_nc, L_ni, L_nn, L_ac, L_ai, L_an, L_aa, e]
  have lc := lc_typed (vs := [3]) (t := tName 3) (elt := e_law_3) (s := [s0, s1, s2, .un, s4, s5, s6, s7, s8, s9]) nat (fun k => tsD (oneK ((["a", "b", "c", "d", "e", "f"] : List Str).getD k ""))) (xs := List.range 6) (fun k hk => by
    refine ⟨[s0, s1, s2, .dat (nat k), s4, s5, s6, s7, s8, s9], rfl, ?_, rfl⟩
    have kk := key k (List.mem_range.mp hk)
    unfold e_law_3
    generalize mMap2 (mC (.str "abcdefz")) (mVar 3) ixD = f at kk
    simp only [mVar, mC, mMap, mMap2, lift_some, lift_none, bind_ok, bind_err, bind_bad, mCons, mNil, mT, asB_bool, asB, mAnd, mOr, mNot, andV_eq, orV_eq, mNotV, mIf, chain_eq, chK_b, mCall, sSeq, sNext, sIf, sRet, sRetN, sDrop, sAsg, sRaise, sFor, sApp, sOwn, setO, ownAt, mOwn1, mPop0, sFrz, frz, sAug, ex_ok, ex_err, ex_bad, then_nx, then_ret, then_brk, then_ct, then_err, optG_some, optG_none, tName, setD, tTupG, tsCons, tsNil, Option.bind_some, List.getElem?_cons_zero, List.getElem?_cons_succ, List.set_cons_zero, List.set_cons_succ, List.length_cons, List.length_nil, Bool.not_true, Bool.not_false, Bool.false_eq_true, if_true, if_false, reduceIte, List.map_cons, List.map_nil, List.cons_append, List.nil_append, List.replicate, Nat.reduceSub, Nat.reduceAdd, Nat.reduceEqDiff, Option.map_some, Option.map_none, outs, Int.reduceAdd, Int.reduceSub, Int.reduceBEq, Int.reduceLT, Int.reduceLE, decide_true, decide_false, beq_self_eq_true, cast_0, cast_1, cast_2, cast_3, cast_4, cast_5, isi_str, isi_tup, addD_i, addI_i, subD_i, leD_i, leD_s, ltD_i, ltD_s, gtD_i, geD_i, eqD_i, neD_i, eqD_b, neD_b, eqD_s, lenD_l, lenD_t, absD_i, intD_i, tupD_l, tupD_t, lstD_l, lstD_t, mkT_0, mkT_1, mkT_2, mkT_3, mkL_0, mkL_1, sized_0, sized_1, ix_0, ix_1, ix_2, isT_t, isT_s, isT_l, isT_i, isT_n, isS_s, isS_t, isS_l, isS_i, isS_n, neD_s, Kd.inj, Mk.inj, Lk.inj, s_km, s_mk, List.length_append, L_c, L_i, L_n, L_a, L_cc, L_ic, L_ii, L_nc, L_ni, L_nn, L_ac, L_ai, L_an, L_aa, kk, mkT_100, Nat.reduceLeDiff]
    rfl)
  have lq := mLc_ok (vs := [3]) (fi := mMap (mCons (mC (.int 6)) mNil) rng1) (tg := tName 3) (test := mYes) (elt := e_law_3) (s := [s0, s1, s2, .un, s4, s5, s6, s7, s8, s9]) (s1 := [s0, s1, s2, .un, s4, s5, s6, s7, s8, s9]) (ds := (List.range 6).map nat) (by simp only [mVar, mC, mMap, mMap2, lift_some, lift_none, bind_ok, bind_err, bind_bad, mCons, mNil, mT, asB_bool, asB, mAnd, mOr, mNot, andV_eq, orV_eq, mNotV, mIf, chain_eq, chK_b, mCall, sSeq, sNext, sIf, sRet, sRetN, sDrop, sAsg, sRaise, sFor, sApp, sOwn, setO, ownAt, mOwn1, mPop0, sFrz, frz, sAug, ex_ok, ex_err, ex_bad, then_nx, then_ret, then_brk, then_ct, then_err, optG_some, optG_none, tName, setD, tTupG, tsCons, tsNil, Option.bind_some, List.getElem?_cons_zero, List.getElem?_cons_succ, List.set_cons_zero, List.set_cons_succ, List.length_cons, List.length_nil, Bool.not_true, Bool.not_false, Bool.false_eq_true, if_true, if_false, reduceIte, List.map_cons, List.map_nil, List.cons_append, List.nil_append, List.replicate, Nat.reduceSub, Nat.reduceAdd, Nat.reduceEqDiff, Option.map_some, Option.map_none, outs, Int.reduceAdd, Int.reduceSub, Int.reduceBEq, Int.reduceLT, Int.reduceLE, decide_true, decide_false, beq_self_eq_true, cast_0, cast_1, cast_2, cast_3, cast_4, cast_5, isi_str, isi_tup, addD_i, addI_i, subD_i, leD_i, leD_s, ltD_i, ltD_s, gtD_i, geD_i, eqD_i, neD_i, eqD_b, neD_b, eqD_s, lenD_l, lenD_t, absD_i, intD_i, tupD_l, tupD_t, lstD_l, lstD_t, mkT_0, mkT_1, mkT_2, mkT_3, mkL_0, mkL_1, sized_0, sized_1, ix_0, ix_1, ix_2, isT_t, isT_s, isT_l, isT_i, isT_n, isS_s, isS_t, isS_l, isS_i, isS_n, neD_s, Kd.inj, Mk.inj, Lk.inj, s_km, s_mk, List.length_append, L_c, L_i, L_n, L_a, L_cc, L_ic, L_ii, L_nc, L_ni, L_nn, L_ac, L_ai, L_an, L_aa, hr]) rfl lc (by decide) (s' := [s0, s1, s2, .un, s4, s5, s6, s7, s8, s9]) rfl
  simp only [mVar, mC, mMap, mMap2, lift_some, lift_none, bind_ok, bind_err, bind_bad, mCons, mNil, mT, asB_bool, asB, mAnd, mOr, mNot, andV_eq, orV_eq, mNotV, mIf, chain_eq, chK_b, mCall, sSeq, sNext, sIf, sRet, sRetN, sDrop, sAsg, sRaise, sFor, sApp, sOwn, setO, ownAt, mOwn1, mPop0, sFrz, frz, sAug, ex_ok, ex_err, ex_bad, then_nx, then_ret, then_brk, then_ct, then_err, optG_some, optG_none, tName, setD, tTupG, tsCons, tsNil, Option.bind_some, List.getElem?_cons_zero, List.getElem?_cons_succ, List.set_cons_zero, List.set_cons_succ, List.length_cons, List.length_nil, Bool.not_true, Bool.not_false, Bool.false_eq_true, if_true, if_false, reduceIte, List.map_cons, List.map_nil, List.cons_append, List.nil_append, List.replicate, Nat.reduceSub, Nat.reduceAdd, Nat.reduceEqDiff, Option.map_some, Option.map_none, outs, Int.reduceAdd, Int.reduceSub, Int.reduceBEq, Int.reduceLT, Int.reduceLE, decide_true, decide_false, beq_self_eq_true, cast_0, cast_1, cast_2, cast_3, cast_4, cast_5, isi_str, isi_tup, addD_i, addI_i, subD_i, leD_i, leD_s, ltD_i, ltD_s, gtD_i, geD_i, eqD_i, neD_i, eqD_b, neD_b, eqD_s, lenD_l, lenD_t, absD_i, intD_i, tupD_l, tupD_t, lstD_l, lstD_t, mkT_0, mkT_1, mkT_2, mkT_3, mkL_0, mkL_1, sized_0, sized_1, ix_0, ix_1, ix_2, isT_t, isT_s, isT_l, isT_i, isT_n, isS_s, isS_t, isS_l, isS_i, isS_n, neD_s, Kd.inj, Mk.inj, Lk.inj, s_km, s_mk, List.length_append, L_c, L_i, L_n, L_a, L_cc, L_ic, L_ii, L_nc, L_ni, L_nn, L_ac, L_ai, L_an, L_aa, mL, lq]
  rfl
theorem lay_names {ks ms : List Str} (hk : ∀ x ∈ ks, x ∈ [Kd.a.s, Kd.b.s, Kd.c.s]) (hm : ∀ x ∈ ms, x ∈ [Mk.x.s, Mk.y.s]) : ∀ p ∈ LT ks ms, LP p := fun p hp => by
  obtain ⟨h1, h2, _⟩ := LT_parts hp
  have f1 : ∀ x ∈ [Kd.a.s, Kd.b.s, Kd.c.s], (PyData.str x).canLay0 = true := by decide +kernel
  have f2 : ∀ x ∈ [Mk.x.s, Mk.y.s], (PyData.str x).canLay0 = true := by decide +kernel
  refine ⟨?_, fun x hx => f2 x (hm x (h2 x hx))⟩
  rcases h1 with h | h
  · exact f1 _ (hk _ h)
  · rw [h]; decide +kernel
theorem the_law (ns : List Int) (hn : ns.length ≤ 63) (_hb : ∀ z ∈ ns, Builtin.Int.intBits z ≤ 1048576) : ∃ ss', F_law [.dat (.list (ns.map .int))] = .ok (.bool true) ss' := by
  obtain ⟨L, dq⟩ := draws_eq 90 hn
  have dq : F_law_draws [.dat (.list (ns.map .int)), .dat (.int 0), .dat (.int 90)] = _ := dq
  generalize PyData.list (ns.map .int) = scr at dq
  obtain ⟨a, L1, ga, qa⟩ := draw_list (e := e_law_1) (fun _ => rfl) (a0 := .dat scr) (a2 := .un) (r := [.un, .un, .un, .un, .un, .un]) L
  obtain ⟨b, L2, gb, qb⟩ := draw_list (e := e_law_2) (fun _ => rfl) (a0 := .dat scr) (a2 := .dat (tssD a)) (r := [.un, .un, .un, .un, .un, .un]) L1
  have l1 := drawn_letters ga gb
  have l2 := drawn_letters' ga gb
  have l3 := drawn_law_letters ga gb
  have ab : addD (tssD a) (tssD b) = some (tssD (a ++ b)) := by
    unfold tssD
    rw [addT_sm (by rw [List.length_map, List.length_map]; have := ga.l; have := gb.l; omega), List.map_append]
  have lp : ∀ p ∈ alph a b, LP p := lay_names (fun x hx => by
      have h := mem_skn.mp hx
      rw [kAll_app] at h
      rcases List.mem_append.mp h with hx | hx
      · exact ga.km _ hx
      · exact gb.km _ hx) (fun x hx => by
      have h := mem_smn.mp hx
      rw [mAll_app] at h
      rcases List.mem_append.mp h with hx | hx
      · exact ga.mm _ hx
      · exact gb.mm _ hx)
  have pz : 0 < (alph a b).length ∧ (alph a b).length ≤ 1000 := by
    rw [LT_len]
    exact ⟨prs_pos _ _, (prs_b (by have := ga.k3 gb; omega) (by have := ga.m2 gb; omega)).1⟩
  generalize alph a b = ps at *
  have ne := ne_refl (lay_dPrs lp).shaped
  obtain ⟨mv, lt, n, L3, h0, h9, h1, hl, wq⟩ := law_walk_eq L2 pz.1 pz.2
  have g1 := grown_eq (mv := mv) (lt := lt) (n := n) 11 (n - 1) 0 (by omega) (by omega) (by omega)
  have g2 := law_grown_eq (mv := mv) (lt := lt) (n := n) h0 (by omega) h1
  have ly : Lay 30 (.tuple [(dr mv lt (n - 1) 0).1, plD (pl mv (n - 1) 0)]) := lay_tup (b := 29) fun d hd => by
    rcases List.mem_cons.mp hd with rfl | hd
    · exact (lay_dr (fun k => lp _ (hl k)) (n - 1) 0).1.up (by omega)
    · rw [List.mem_singleton.mp hd]
      exact (lay_pl _).up (by omega)
  have g1 : F_grown 11 [.dat (wD mv lt n), .dat (.int 0)] = _ := g1
  generalize wD mv lt n = W at *
  generalize (dr mv lt (n - 1) 0).1 = doc at *
  generalize plD (pl mv (n - 1) 0) = plc at *
  have wd : F_walk_document [.dat W] = .ok (.tuple [doc, plc]) [.dat W] := by
    refine run_of (st := [.dat W, .un, .un]) ⟨[.dat W, .dat doc, .dat plc], ?_, rfl⟩
    unfold g_walk_document
    refine (seq_nx (s1 := [.dat W, .dat doc, .dat plc]) ?_).trans ?_
    · simp only [mVar, mC, mMap, mMap2, lift_some, lift_none, bind_ok, bind_err, bind_bad, mCons, mNil, mT, asB_bool, asB, mAnd, mOr, mNot, andV_eq, orV_eq, mNotV, mIf, chain_eq, chK_b, mCall, sSeq, sNext, sIf, sRet, sRetN, sDrop, sAsg, sRaise, sFor, sApp, sOwn, setO, ownAt, mOwn1, mPop0, sFrz, frz, sAug, ex_ok, ex_err, ex_bad, then_nx, then_ret, then_brk, then_ct, then_err, optG_some, optG_none, tName, setD, tTupG, tsCons, tsNil, Option.bind_some, List.getElem?_cons_zero, List.getElem?_cons_succ, List.set_cons_zero, List.set_cons_succ, List.length_cons, List.length_nil, Bool.not_true, Bool.not_false, Bool.false_eq_true, if_true, if_false, reduceIte, List.map_cons, List.map_nil, List.cons_append, List.nil_append, List.replicate, Nat.reduceSub, Nat.reduceAdd, Nat.reduceEqDiff, Option.map_some, Option.map_none, outs, Int.reduceAdd, Int.reduceSub, Int.reduceBEq, Int.reduceLT, Int.reduceLE, decide_true, decide_false, beq_self_eq_true, cast_0, cast_1, cast_2, cast_3, cast_4, cast_5, isi_str, isi_tup, addD_i, addI_i, subD_i, leD_i, leD_s, ltD_i, ltD_s, gtD_i, geD_i, eqD_i, neD_i, eqD_b, neD_b, eqD_s, lenD_l, lenD_t, absD_i, intD_i, tupD_l, tupD_t, lstD_l, lstD_t, mkT_0, mkT_1, mkT_2, mkT_3, mkL_0, mkL_1, sized_0, sized_1, ix_0, ix_1, ix_2, isT_t, isT_s, isT_l, isT_i, isT_n, isS_s, isS_t, isS_l, isS_i, isS_n, neD_s, Kd.inj, Mk.inj, Lk.inj, s_km, s_mk, List.length_append, L_c, L_i, L_n, L_a, L_cc, L_ic, L_ii, L_nc, L_ni, L_nn, L_ac, L_ai, L_an, L_aa, g1]
    · simp only [mVar, mC, mMap, mMap2, lift_some, lift_none, bind_ok, bind_err, bind_bad, mCons, mNil, mT, asB_bool, asB, mAnd, mOr, mNot, andV_eq, orV_eq, mNotV, mIf, chain_eq, chK_b, mCall, sSeq, sNext, sIf, sRet, sRetN, sDrop, sAsg, sRaise, sFor, sApp, sOwn, setO, ownAt, mOwn1, mPop0, sFrz, frz, sAug, ex_ok, ex_err, ex_bad, then_nx, then_ret, then_brk, then_ct, then_err, optG_some, optG_none, tName, setD, tTupG, tsCons, tsNil, Option.bind_some, List.getElem?_cons_zero, List.getElem?_cons_succ, List.set_cons_zero, List.set_cons_succ, List.length_cons, List.length_nil, Bool.not_true, Bool.not_false, Bool.false_eq_true, if_true, if_false, reduceIte, List.map_cons, List.map_nil, List.cons_append, List.nil_append, List.replicate, Nat.reduceSub, Nat.reduceAdd, Nat.reduceEqDiff, Option.map_some, Option.map_none, outs, Int.reduceAdd, Int.reduceSub, Int.reduceBEq, Int.reduceLT, Int.reduceLE, decide_true, decide_false, beq_self_eq_true, cast_0, cast_1, cast_2, cast_3, cast_4, cast_5, isi_str, isi_tup, addD_i, addI_i, subD_i, leD_i, leD_s, ltD_i, ltD_s, gtD_i, geD_i, eqD_i, neD_i, eqD_b, neD_b, eqD_s, lenD_l, lenD_t, absD_i, intD_i, tupD_l, tupD_t, lstD_l, lstD_t, mkT_0, mkT_1, mkT_2, mkT_3, mkL_0, mkL_1, sized_0, sized_1, ix_0, ix_1, ix_2, isT_t, isT_s, isT_l, isT_i, isT_n, isS_s, isS_t, isS_l, isS_i, isS_n, neD_s, Kd.inj, Mk.inj, Lk.inj, s_km, s_mk, List.length_append, L_c, L_i, L_n, L_a, L_cc, L_ic, L_ii, L_nc, L_ni, L_nn, L_ac, L_ai, L_an, L_aa]
  have ne2 := ne_refl ly.shaped
  have k1 : slD (tssD kindT) none (some 3) = some (tssD (kindT.take 3)) := slt_to _ 3
  have k2 : slD (tssD kindT) (some 1) (some 5) = some (tssD ((kindT.take 5).drop 1)) := by kernel_rfl
  have k3 : slD (tssD kindT) (some 3) none = some (tssD (kindT.drop 3)) := slt_from _ 3
  have n1 : slD (.tuple [tsD markT1, tsD markT2]) none (some 1) = some (tssD [markT1]) := slt_to _ 1
  have n2 : slD (.tuple [tsD markT1, tsD markT2]) (some 1) none = some (tssD [markT2]) := slt_from _ 1
  have m1 : F_law_many [.dat (tssD kindT), .dat (.tuple [])] = _ := m1
  have m4 : F_law_many [.dat (tssD [markT1]), .dat (.tuple [])] = _ := m4
  have eq1 : eqD (.list [.tuple [.str "z", .tuple []]]) (.list [.tuple [.str "z", .tuple []]]) = some (.bool true) := eq_refl' (by decide +kernel)
  refine ⟨_, run_ret (st := [.dat scr, .un, .un, .un, .un, .un, .un, .un, .un, .un]) (s := [.dat scr, .own (L3.map nat), .dat (tssD a), .un, .dat (tssD b), .dat (.list (ps.map dPr)), .dat W, .dat (.tuple [doc, plc]), .dat (tssD kindT), .dat (.tuple [tsD markT1, tsD markT2])]) ?_ rfl rfl⟩
  unfold g_law
  refine (seq_nx (s1 := [.dat scr, .own (L.map nat), .un, .un, .un, .un, .un, .un, .un, .un]) ?_).trans ?_
  · simp only [mVar, mC, mMap, mMap2, lift_some, lift_none, bind_ok, bind_err, bind_bad, mCons, mNil, mT, asB_bool, asB, mAnd, mOr, mNot, andV_eq, orV_eq, mNotV, mIf, chain_eq, chK_b, mCall, sSeq, sNext, sIf, sRet, sRetN, sDrop, sAsg, sRaise, sFor, sApp, sOwn, setO, ownAt, mOwn1, mPop0, sFrz, frz, sAug, ex_ok, ex_err, ex_bad, then_nx, then_ret, then_brk, then_ct, then_err, optG_some, optG_none, tName, setD, tTupG, tsCons, tsNil, Option.bind_some, List.getElem?_cons_zero, List.getElem?_cons_succ, List.set_cons_zero, List.set_cons_succ, List.length_cons, List.length_nil, Bool.not_true, Bool.not_false, Bool.false_eq_true, if_true, if_false, reduceIte, List.map_cons, List.map_nil, List.cons_append, List.nil_append, List.replicate, Nat.reduceSub, Nat.reduceAdd, Nat.reduceEqDiff, Option.map_some, Option.map_none, outs, Int.reduceAdd, Int.reduceSub, Int.reduceBEq, Int.reduceLT, Int.reduceLE, decide_true, decide_false, beq_self_eq_true, cast_0, cast_1, cast_2, cast_3, cast_4, cast_5, isi_str, isi_tup, addD_i, addI_i, subD_i, leD_i, leD_s, ltD_i, ltD_s, gtD_i, geD_i, eqD_i, neD_i, eqD_b, neD_b, eqD_s, lenD_l, lenD_t, absD_i, intD_i, tupD_l, tupD_t, lstD_l, lstD_t, mkT_0, mkT_1, mkT_2, mkT_3, mkL_0, mkL_1, sized_0, sized_1, ix_0, ix_1, ix_2, isT_t, isT_s, isT_l, isT_i, isT_n, isS_s, isS_t, isS_l, isS_i, isS_n, neD_s, Kd.inj, Mk.inj, Lk.inj, s_km, s_mk, List.length_append, L_c, L_i, L_n, L_a, L_cc, L_ic, L_ii, L_nc, L_ni, L_nn, L_ac, L_ai, L_an, L_aa, mCallL, dq]
  refine (seq_nx (s1 := [.dat scr, .own (L1.map nat), .dat (tssD a), .un, .un, .un, .un, .un, .un, .un]) ?_).trans ?_
  · unfold sAsg
    rw [qa]
    rfl
  refine (seq_nx (s1 := [.dat scr, .own (L2.map nat), .dat (tssD a), .un, .dat (tssD b), .un, .un, .un, .un, .un]) ?_).trans ?_
  · unfold sAsg
    rw [qb]
    rfl
  refine (seq_nx (s1 := [.dat scr, .own (L2.map nat), .dat (tssD a), .un, .dat (tssD b), .dat (.list (ps.map dPr)), .un, .un, .un, .un]) ?_).trans ?_
  · simp only [mVar, mC, mMap, mMap2, lift_some, lift_none, bind_ok, bind_err, bind_bad, mCons, mNil, mT, asB_bool, asB, mAnd, mOr, mNot, andV_eq, orV_eq, mNotV, mIf, chain_eq, chK_b, mCall, sSeq, sNext, sIf, sRet, sRetN, sDrop, sAsg, sRaise, sFor, sApp, sOwn, setO, ownAt, mOwn1, mPop0, sFrz, frz, sAug, ex_ok, ex_err, ex_bad, then_nx, then_ret, then_brk, then_ct, then_err, optG_some, optG_none, tName, setD, tTupG, tsCons, tsNil, Option.bind_some, List.getElem?_cons_zero, List.getElem?_cons_succ, List.set_cons_zero, List.set_cons_succ, List.length_cons, List.length_nil, Bool.not_true, Bool.not_false, Bool.false_eq_true, if_true, if_false, reduceIte, List.map_cons, List.map_nil, List.cons_append, List.nil_append, List.replicate, Nat.reduceSub, Nat.reduceAdd, Nat.reduceEqDiff, Option.map_some, Option.map_none, outs, Int.reduceAdd, Int.reduceSub, Int.reduceBEq, Int.reduceLT, Int.reduceLE, decide_true, decide_false, beq_self_eq_true, cast_0, cast_1, cast_2, cast_3, cast_4, cast_5, isi_str, isi_tup, addD_i, addI_i, subD_i, leD_i, leD_s, ltD_i, ltD_s, gtD_i, geD_i, eqD_i, neD_i, eqD_b, neD_b, eqD_s, lenD_l, lenD_t, absD_i, intD_i, tupD_l, tupD_t, lstD_l, lstD_t, mkT_0, mkT_1, mkT_2, mkT_3, mkL_0, mkL_1, sized_0, sized_1, ix_0, ix_1, ix_2, isT_t, isT_s, isT_l, isT_i, isT_n, isS_s, isS_t, isS_l, isS_i, isS_n, neD_s, Kd.inj, Mk.inj, Lk.inj, s_km, s_mk, List.length_append, L_c, L_i, L_n, L_a, L_cc, L_ic, L_ii, L_nc, L_ni, L_nn, L_ac, L_ai, L_an, L_aa, ab, l3]
  refine (seq_nx (s1 := [.dat scr, .own (L2.map nat), .dat (tssD a), .un, .dat (tssD b), .dat (.list (ps.map dPr)), .un, .un, .un, .un]) ?_).trans ?_
  · simp only [mVar, mC, mMap, mMap2, lift_some, lift_none, bind_ok, bind_err, bind_bad, mCons, mNil, mT, asB_bool, asB, mAnd, mOr, mNot, andV_eq, orV_eq, mNotV, mIf, chain_eq, chK_b, mCall, sSeq, sNext, sIf, sRet, sRetN, sDrop, sAsg, sRaise, sFor, sApp, sOwn, setO, ownAt, mOwn1, mPop0, sFrz, frz, sAug, ex_ok, ex_err, ex_bad, then_nx, then_ret, then_brk, then_ct, then_err, optG_some, optG_none, tName, setD, tTupG, tsCons, tsNil, Option.bind_some, List.getElem?_cons_zero, List.getElem?_cons_succ, List.set_cons_zero, List.set_cons_succ, List.length_cons, List.length_nil, Bool.not_true, Bool.not_false, Bool.false_eq_true, if_true, if_false, reduceIte, List.map_cons, List.map_nil, List.cons_append, List.nil_append, List.replicate, Nat.reduceSub, Nat.reduceAdd, Nat.reduceEqDiff, Option.map_some, Option.map_none, outs, Int.reduceAdd, Int.reduceSub, Int.reduceBEq, Int.reduceLT, Int.reduceLE, decide_true, decide_false, beq_self_eq_true, cast_0, cast_1, cast_2, cast_3, cast_4, cast_5, isi_str, isi_tup, addD_i, addI_i, subD_i, leD_i, leD_s, ltD_i, ltD_s, gtD_i, geD_i, eqD_i, neD_i, eqD_b, neD_b, eqD_s, lenD_l, lenD_t, absD_i, intD_i, tupD_l, tupD_t, lstD_l, lstD_t, mkT_0, mkT_1, mkT_2, mkT_3, mkL_0, mkL_1, sized_0, sized_1, ix_0, ix_1, ix_2, isT_t, isT_s, isT_l, isT_i, isT_n, isS_s, isS_t, isS_l, isS_i, isS_n, neD_s, Kd.inj, Mk.inj, Lk.inj, s_km, s_mk, List.length_append, L_c, L_i, L_n, L_a, L_cc, L_ic, L_ii, L_nc, L_ni, L_nn, L_ac, L_ai, L_an, L_aa, l1, l2, ne]
  refine (seq_nx (s1 := [.dat scr, .own (L3.map nat), .dat (tssD a), .un, .dat (tssD b), .dat (.list (ps.map dPr)), .dat W, .un, .un, .un]) ?_).trans ?_
  · simp only [mVar, mC, mMap, mMap2, lift_some, lift_none, bind_ok, bind_err, bind_bad, mCons, mNil, mT, asB_bool, asB, mAnd, mOr, mNot, andV_eq, orV_eq, mNotV, mIf, chain_eq, chK_b, mCall, sSeq, sNext, sIf, sRet, sRetN, sDrop, sAsg, sRaise, sFor, sApp, sOwn, setO, ownAt, mOwn1, mPop0, sFrz, frz, sAug, ex_ok, ex_err, ex_bad, then_nx, then_ret, then_brk, then_ct, then_err, optG_some, optG_none, tName, setD, tTupG, tsCons, tsNil, Option.bind_some, List.getElem?_cons_zero, List.getElem?_cons_succ, List.set_cons_zero, List.set_cons_succ, List.length_cons, List.length_nil, Bool.not_true, Bool.not_false, Bool.false_eq_true, if_true, if_false, reduceIte, List.map_cons, List.map_nil, List.cons_append, List.nil_append, List.replicate, Nat.reduceSub, Nat.reduceAdd, Nat.reduceEqDiff, Option.map_some, Option.map_none, outs, Int.reduceAdd, Int.reduceSub, Int.reduceBEq, Int.reduceLT, Int.reduceLE, decide_true, decide_false, beq_self_eq_true, cast_0, cast_1, cast_2, cast_3, cast_4, cast_5, isi_str, isi_tup, addD_i, addI_i, subD_i, leD_i, leD_s, ltD_i, ltD_s, gtD_i, geD_i, eqD_i, neD_i, eqD_b, neD_b, eqD_s, lenD_l, lenD_t, absD_i, intD_i, tupD_l, tupD_t, lstD_l, lstD_t, mkT_0, mkT_1, mkT_2, mkT_3, mkL_0, mkL_1, sized_0, sized_1, ix_0, ix_1, ix_2, isT_t, isT_s, isT_l, isT_i, isT_n, isS_s, isS_t, isS_l, isS_i, isS_n, neD_s, Kd.inj, Mk.inj, Lk.inj, s_km, s_mk, List.length_append, L_c, L_i, L_n, L_a, L_cc, L_ic, L_ii, L_nc, L_ni, L_nn, L_ac, L_ai, L_an, L_aa, mCallO, wq]
  refine (seq_nx (s1 := [.dat scr, .own (L3.map nat), .dat (tssD a), .un, .dat (tssD b), .dat (.list (ps.map dPr)), .dat W, .dat (.tuple [doc, plc]), .un, .un]) ?_).trans ?_
  · simp only [mVar, mC, mMap, mMap2, lift_some, lift_none, bind_ok, bind_err, bind_bad, mCons, mNil, mT, asB_bool, asB, mAnd, mOr, mNot, andV_eq, orV_eq, mNotV, mIf, chain_eq, chK_b, mCall, sSeq, sNext, sIf, sRet, sRetN, sDrop, sAsg, sRaise, sFor, sApp, sOwn, setO, ownAt, mOwn1, mPop0, sFrz, frz, sAug, ex_ok, ex_err, ex_bad, then_nx, then_ret, then_brk, then_ct, then_err, optG_some, optG_none, tName, setD, tTupG, tsCons, tsNil, Option.bind_some, List.getElem?_cons_zero, List.getElem?_cons_succ, List.set_cons_zero, List.set_cons_succ, List.length_cons, List.length_nil, Bool.not_true, Bool.not_false, Bool.false_eq_true, if_true, if_false, reduceIte, List.map_cons, List.map_nil, List.cons_append, List.nil_append, List.replicate, Nat.reduceSub, Nat.reduceAdd, Nat.reduceEqDiff, Option.map_some, Option.map_none, outs, Int.reduceAdd, Int.reduceSub, Int.reduceBEq, Int.reduceLT, Int.reduceLE, decide_true, decide_false, beq_self_eq_true, cast_0, cast_1, cast_2, cast_3, cast_4, cast_5, isi_str, isi_tup, addD_i, addI_i, subD_i, leD_i, leD_s, ltD_i, ltD_s, gtD_i, geD_i, eqD_i, neD_i, eqD_b, neD_b, eqD_s, lenD_l, lenD_t, absD_i, intD_i, tupD_l, tupD_t, lstD_l, lstD_t, mkT_0, mkT_1, mkT_2, mkT_3, mkL_0, mkL_1, sized_0, sized_1, ix_0, ix_1, ix_2, isT_t, isT_s, isT_l, isT_i, isT_n, isS_s, isS_t, isS_l, isS_i, isS_n, neD_s, Kd.inj, Mk.inj, Lk.inj, s_km, s_mk, List.length_append, L_c, L_i, L_n, L_a, L_cc, L_ic, L_ii, L_nc, L_ni, L_nn, L_ac, L_ai, L_an, L_aa, wd]
  refine (seq_nx (s1 := [.dat scr, .own (L3.map nat), .dat (tssD a), .un, .dat (tssD b), .dat (.list (ps.map dPr)), .dat W, .dat (.tuple [doc, plc]), .un, .un]) ?_).trans ?_
  · simp only [mVar, mC, mMap, mMap2, lift_some, lift_none, bind_ok, bind_err, bind_bad, mCons, mNil, mT, asB_bool, asB, mAnd, mOr, mNot, andV_eq, orV_eq, mNotV, mIf, chain_eq, chK_b, mCall, sSeq, sNext, sIf, sRet, sRetN, sDrop, sAsg, sRaise, sFor, sApp, sOwn, setO, ownAt, mOwn1, mPop0, sFrz, frz, sAug, ex_ok, ex_err, ex_bad, then_nx, then_ret, then_brk, then_ct, then_err, optG_some, optG_none, tName, setD, tTupG, tsCons, tsNil, Option.bind_some, List.getElem?_cons_zero, List.getElem?_cons_succ, List.set_cons_zero, List.set_cons_succ, List.length_cons, List.length_nil, Bool.not_true, Bool.not_false, Bool.false_eq_true, if_true, if_false, reduceIte, List.map_cons, List.map_nil, List.cons_append, List.nil_append, List.replicate, Nat.reduceSub, Nat.reduceAdd, Nat.reduceEqDiff, Option.map_some, Option.map_none, outs, Int.reduceAdd, Int.reduceSub, Int.reduceBEq, Int.reduceLT, Int.reduceLE, decide_true, decide_false, beq_self_eq_true, cast_0, cast_1, cast_2, cast_3, cast_4, cast_5, isi_str, isi_tup, addD_i, addI_i, subD_i, leD_i, leD_s, ltD_i, ltD_s, gtD_i, geD_i, eqD_i, neD_i, eqD_b, neD_b, eqD_s, lenD_l, lenD_t, absD_i, intD_i, tupD_l, tupD_t, lstD_l, lstD_t, mkT_0, mkT_1, mkT_2, mkT_3, mkL_0, mkL_1, sized_0, sized_1, ix_0, ix_1, ix_2, isT_t, isT_s, isT_l, isT_i, isT_n, isS_s, isS_t, isS_l, isS_i, isS_n, neD_s, Kd.inj, Mk.inj, Lk.inj, s_km, s_mk, List.length_append, L_c, L_i, L_n, L_a, L_cc, L_ic, L_ii, L_nc, L_ni, L_nn, L_ac, L_ai, L_an, L_aa, g2, ne2]
  refine (seq_nx (s1 := [.dat scr, .own (L3.map nat), .dat (tssD a), .un, .dat (tssD b), .dat (.list (ps.map dPr)), .dat W, .dat (.tuple [doc, plc]), .dat (tssD kindT), .un]) ?_).trans ?_
  · unfold sAsg
    rw [kinds_eq]
    rfl
  refine (seq_nx (s1 := [.dat scr, .own (L3.map nat), .dat (tssD a), .un, .dat (tssD b), .dat (.list (ps.map dPr)), .dat W, .dat (.tuple [doc, plc]), .dat (tssD kindT), .dat (.tuple [tsD markT1, tsD markT2])]) ?_).trans ?_
  · simp only [mVar, mC, mMap, mMap2, lift_some, lift_none, bind_ok, bind_err, bind_bad, mCons, mNil, mT, asB_bool, asB, mAnd, mOr, mNot, andV_eq, orV_eq, mNotV, mIf, chain_eq, chK_b, mCall, sSeq, sNext, sIf, sRet, sRetN, sDrop, sAsg, sRaise, sFor, sApp, sOwn, setO, ownAt, mOwn1, mPop0, sFrz, frz, sAug, ex_ok, ex_err, ex_bad, then_nx, then_ret, then_brk, then_ct, then_err, optG_some, optG_none, tName, setD, tTupG, tsCons, tsNil, Option.bind_some, List.getElem?_cons_zero, List.getElem?_cons_succ, List.set_cons_zero, List.set_cons_succ, List.length_cons, List.length_nil, Bool.not_true, Bool.not_false, Bool.false_eq_true, if_true, if_false, reduceIte, List.map_cons, List.map_nil, List.cons_append, List.nil_append, List.replicate, Nat.reduceSub, Nat.reduceAdd, Nat.reduceEqDiff, Option.map_some, Option.map_none, outs, Int.reduceAdd, Int.reduceSub, Int.reduceBEq, Int.reduceLT, Int.reduceLE, decide_true, decide_false, beq_self_eq_true, cast_0, cast_1, cast_2, cast_3, cast_4, cast_5, isi_str, isi_tup, addD_i, addI_i, subD_i, leD_i, leD_s, ltD_i, ltD_s, gtD_i, geD_i, eqD_i, neD_i, eqD_b, neD_b, eqD_s, lenD_l, lenD_t, absD_i, intD_i, tupD_l, tupD_t, lstD_l, lstD_t, mkT_0, mkT_1, mkT_2, mkT_3, mkL_0, mkL_1, sized_0, sized_1, ix_0, ix_1, ix_2, isT_t, isT_s, isT_l, isT_i, isT_n, isS_s, isS_t, isS_l, isS_i, isS_n, neD_s, Kd.inj, Mk.inj, Lk.inj, s_km, s_mk, List.length_append, L_c, L_i, L_n, L_a, L_cc, L_ic, L_ii, L_nc, L_ni, L_nn, L_ac, L_ai, L_an, L_aa, mkT_100, Nat.reduceLeDiff]
    rfl
  refine (seq_nx (s1 := [.dat scr, .own (L3.map nat), .dat (tssD a), .un, .dat (tssD b), .dat (.list (ps.map dPr)), .dat W, .dat (.tuple [doc, plc]), .dat (tssD kindT), .dat (.tuple [tsD markT1, tsD markT2])]) ?_).trans ?_
  · unfold mSl mPart
    simp only [mVar, mC, mMap, mMap2, lift_some, lift_none, bind_ok, bind_err, bind_bad, mCons, mNil, mT, asB_bool, asB, mAnd, mOr, mNot, andV_eq, orV_eq, mNotV, mIf, chain_eq, chK_b, mCall, sSeq, sNext, sIf, sRet, sRetN, sDrop, sAsg, sRaise, sFor, sApp, sOwn, setO, ownAt, mOwn1, mPop0, sFrz, frz, sAug, ex_ok, ex_err, ex_bad, then_nx, then_ret, then_brk, then_ct, then_err, optG_some, optG_none, tName, setD, tTupG, tsCons, tsNil, Option.bind_some, List.getElem?_cons_zero, List.getElem?_cons_succ, List.set_cons_zero, List.set_cons_succ, List.length_cons, List.length_nil, Bool.not_true, Bool.not_false, Bool.false_eq_true, if_true, if_false, reduceIte, List.map_cons, List.map_nil, List.cons_append, List.nil_append, List.replicate, Nat.reduceSub, Nat.reduceAdd, Nat.reduceEqDiff, Option.map_some, Option.map_none, outs, Int.reduceAdd, Int.reduceSub, Int.reduceBEq, Int.reduceLT, Int.reduceLE, decide_true, decide_false, beq_self_eq_true, cast_0, cast_1, cast_2, cast_3, cast_4, cast_5, isi_str, isi_tup, addD_i, addI_i, subD_i, leD_i, leD_s, ltD_i, ltD_s, gtD_i, geD_i, eqD_i, neD_i, eqD_b, neD_b, eqD_s, lenD_l, lenD_t, absD_i, intD_i, tupD_l, tupD_t, lstD_l, lstD_t, mkT_0, mkT_1, mkT_2, mkT_3, mkL_0, mkL_1, sized_0, sized_1, ix_0, ix_1, ix_2, isT_t, isT_s, isT_l, isT_i, isT_n, isS_s, isS_t, isS_l, isS_i, isS_n, neD_s, Kd.inj, Mk.inj, Lk.inj, s_km, s_mk, List.length_append, L_c, L_i, L_n, L_a, L_cc, L_ic, L_ii, L_nc, L_ni, L_nn, L_ac, L_ai, L_an, L_aa, m1, k1, k2, k3, m2, m3]
  · unfold mSl mPart
    simp only [mVar, mC, mMap, mMap2, lift_some, lift_none, bind_ok, bind_err, bind_bad, mCons, mNil, mT, asB_bool, asB, mAnd, mOr, mNot, andV_eq, orV_eq, mNotV, mIf, chain_eq, chK_b, mCall, sSeq, sNext, sIf, sRet, sRetN, sDrop, sAsg, sRaise, sFor, sApp, sOwn, setO, ownAt, mOwn1, mPop0, sFrz, frz, sAug, ex_ok, ex_err, ex_bad, then_nx, then_ret, then_brk, then_ct, then_err, optG_some, optG_none, tName, setD, tTupG, tsCons, tsNil, Option.bind_some, List.getElem?_cons_zero, List.getElem?_cons_succ, List.set_cons_zero, List.set_cons_succ, List.length_cons, List.length_nil, Bool.not_true, Bool.not_false, Bool.false_eq_true, if_true, if_false, reduceIte, List.map_cons, List.map_nil, List.cons_append, List.nil_append, List.replicate, Nat.reduceSub, Nat.reduceAdd, Nat.reduceEqDiff, Option.map_some, Option.map_none, outs, Int.reduceAdd, Int.reduceSub, Int.reduceBEq, Int.reduceLT, Int.reduceLE, decide_true, decide_false, beq_self_eq_true, cast_0, cast_1, cast_2, cast_3, cast_4, cast_5, isi_str, isi_tup, addD_i, addI_i, subD_i, leD_i, leD_s, ltD_i, ltD_s, gtD_i, geD_i, eqD_i, neD_i, eqD_b, neD_b, eqD_s, lenD_l, lenD_t, absD_i, intD_i, tupD_l, tupD_t, lstD_l, lstD_t, mkT_0, mkT_1, mkT_2, mkT_3, mkL_0, mkL_1, sized_0, sized_1, ix_0, ix_1, ix_2, isT_t, isT_s, isT_l, isT_i, isT_n, isS_s, isS_t, isS_l, isS_i, isS_n, neD_s, Kd.inj, Mk.inj, Lk.inj, s_km, s_mk, List.length_append, L_c, L_i, L_n, L_a, L_cc, L_ic, L_ii, L_nc, L_ni, L_nn, L_ac, L_ai, L_an, L_aa, n1, n2, m4, m5, m6, eq1]
end DL

namespace DL
open PySem PySem.Spec L2
def caOf (l : List (Str × Addr)) (y : Str) : Addr := (l.lookup y).getD 0
section
theorem all_mk {l : PySem.W.OpenLaw} {w : World} {K : PySem.W.Frag} {h : Heap} {mg mb : Str → Option Value} {fa : Addr} {q : Program} {ls : List Str} {mean : ExcName → Option Value} (Tp : PyProof.Rows.Top q ls mean mg mb h) (X : K.In h) (hfa : mg "law" = some (.ref fa))
    {f1 : Addr} {od1 an1 : Option Addr} {sl1 : Array (Option Value)} {oc1 kV1 dc1 pm1 cd1 ct1 : Value} {f2 : Addr} {od2 an2 : Option Addr} {sl2 : Array (Option Value)} {oc2 kV2 dc2 pm2 cd2 ct2 : Value} {f3 : Addr} {od3 an3 : Option Addr} {sl3 : Array (Option Value)} {oc3 kV3 dc3 pm3 cd3 ct3 : Value} {f4 : Addr} {od4 an4 : Option Addr} {sl4 : Array (Option Value)} {oc4 kV4 dc4 pm4 cd4 ct4 : Value} {f5 : Addr} {od5 an5 : Option Addr} {sl5 : Array (Option Value)} {oc5 kV5 dc5 pm5 ct5 : Value} {cc5 PT5 : Addr} {od5x : Option Addr} {oc5x : Value} {vs5x : Array Value} {sl5x : Array (Option Value)} {f6 : Addr} {od6 an6 : Option Addr} {sl6 : Array (Option Value)} {oc6 kV6 dc6 pm6 cd6 ct6 : Value} {f7 : Addr} {od7 an7 : Option Addr} {sl7 : Array (Option Value)} {oc7 kV7 dc7 pm7 cd7 ct7 : Value} {f8 : Addr} {od8 an8 : Option Addr} {sl8 : Array (Option Value)} {oc8 kV8 dc8 pm8 cd8 ct8 : Value} {f9 : Addr} {od9 an9 : Option Addr} {sl9 : Array (Option Value)} {oc9 kV9 dc9 pm9 cd9 ct9 : Value} {f10 : Addr} {od10 an10 : Option Addr} {sl10 : Array (Option Value)} {oc10 kV10 dc10 pm10 cd10 ct10 : Value} {f11 : Addr} {od11 an11 : Option Addr} {sl11 : Array (Option Value)} {oc11 kV11 dc11 pm11 cd11 ct11 : Value} {f12 : Addr} {od12 an12 : Option Addr} {sl12 : Array (Option Value)} {oc12 kV12 dc12 pm12 cd12 ct12 : Value} {f13 : Addr} {od13 an13 : Option Addr} {sl13 : Array (Option Value)} {oc13 kV13 dc13 pm13 ct13 : Value} {cc13 PT13 : Addr} {od13x : Option Addr} {oc13x : Value} {vs13x : Array Value} {sl13x : Array (Option Value)} {f14 : Addr} {od14 an14 : Option Addr} {sl14 : Array (Option Value)} {oc14 kV14 dc14 pm14 cd14 ct14 : Value} {f15 : Addr} {od15 an15 : Option Addr} {sl15 : Array (Option Value)} {oc15 kV15 dc15 pm15 cd15 ct15 : Value} {f16 : Addr} {od16 an16 : Option Addr} {sl16 : Array (Option Value)} {oc16 kV16 dc16 pm16 cd16 ct16 : Value} {f17 : Addr} {od17 an17 : Option Addr} {sl17 : Array (Option Value)} {oc17 kV17 dc17 pm17 cd17 ct17 : Value} {C_TooMany : Addr} {tk_MOST_KINDS : Tok} {tk_MOST_MARKS : Tok}
    (a1 : PySem.W.nsIn K mainGlobals "all_parts" = some (some (.ref f1)))
    (l1 : K.lookup f1 = some ⟨oc1, od1, .func (PySem.W.fnOf "all_parts" "all_parts" (defArgs s_all_parts) (defBody s_all_parts) (defScope s_all_parts) .none kV1 dc1 pm1 an1 cd1 ct1), sl1⟩)
    (c1 : PySem.W.codeIn K cd1 "all_parts" = true)
    (k1 : PySem.W.keepIn K (.ref f1) = true)
    (a2 : PySem.W.nsIn K mainGlobals "used_kinds" = some (some (.ref f2)))
    (l2 : K.lookup f2 = some ⟨oc2, od2, .func (PySem.W.fnOf "used_kinds" "used_kinds" (defArgs s_used_kinds) (defBody s_used_kinds) (defScope s_used_kinds) .none kV2 dc2 pm2 an2 cd2 ct2), sl2⟩)
    (c2 : PySem.W.codeIn K cd2 "used_kinds" = true)
    (k2 : PySem.W.keepIn K (.ref f2) = true)
    (a3 : PySem.W.nsIn K mainGlobals "used_marks" = some (some (.ref f3)))
    (l3 : K.lookup f3 = some ⟨oc3, od3, .func (PySem.W.fnOf "used_marks" "used_marks" (defArgs s_used_marks) (defBody s_used_marks) (defScope s_used_marks) .none kV3 dc3 pm3 an3 cd3 ct3), sl3⟩)
    (c3 : PySem.W.codeIn K cd3 "used_marks" = true)
    (k3 : PySem.W.keepIn K (.ref f3) = true)
    (a4 : PySem.W.nsIn K mainGlobals "subsets" = some (some (.ref f4)))
    (l4 : K.lookup f4 = some ⟨oc4, od4, .func (PySem.W.fnOf "subsets" "subsets" (defArgs s_subsets) (defBody s_subsets) (defScope s_subsets) .none kV4 dc4 pm4 an4 cd4 ct4), sl4⟩)
    (c4 : PySem.W.codeIn K cd4 "subsets" = true)
    (k4 : PySem.W.keepIn K (.ref f4) = true)
    (a5 : PySem.W.nsIn K mainGlobals "letters" = some (some (.ref f5)))
    (l5 : K.lookup f5 = some ⟨oc5, od5, .func (PySem.W.fnOf "letters" "letters" (defArgs s_letters) (defBody s_letters) (defScope s_letters) .none kV5 dc5 pm5 an5 (.ref cc5) ct5), sl5⟩)
    (c5 : PySem.W.codeIn K (.ref cc5) "letters" = true)
    (k5 : PySem.W.keepIn K (.ref f5) = true)
    (t5 : K.lookup cc5 = some ⟨oc5x, od5x, .fields vs5x, sl5x⟩)
    (u5 : (vs5x[11]? : Option Value) = some (.ref PT5))
    (n5 : K.lookup PT5 = none)
    (r5 : ((PyProof.Rows.recsOf q).any fun e => e.name == "letters") = true)
    (a6 : PySem.W.nsIn K mainGlobals "grown" = some (some (.ref f6)))
    (l6 : K.lookup f6 = some ⟨oc6, od6, .func (PySem.W.fnOf "grown" "grown" (defArgs s_grown) (defBody s_grown) (defScope s_grown) .none kV6 dc6 pm6 an6 cd6 ct6), sl6⟩)
    (c6 : PySem.W.codeIn K cd6 "grown" = true)
    (k6 : PySem.W.keepIn K (.ref f6) = true)
    (a7 : PySem.W.nsIn K mainGlobals "walk_document" = some (some (.ref f7)))
    (l7 : K.lookup f7 = some ⟨oc7, od7, .func (PySem.W.fnOf "walk_document" "walk_document" (defArgs s_walk_document) (defBody s_walk_document) (defScope s_walk_document) .none kV7 dc7 pm7 an7 cd7 ct7), sl7⟩)
    (c7 : PySem.W.codeIn K cd7 "walk_document" = true)
    (k7 : PySem.W.keepIn K (.ref f7) = true)
    (a8 : PySem.W.nsIn K mainGlobals "_law_draws" = some (some (.ref f8)))
    (l8 : K.lookup f8 = some ⟨oc8, od8, .func (PySem.W.fnOf "_law_draws" "_law_draws" (defArgs s_law_draws) (defBody s_law_draws) (defScope s_law_draws) .none kV8 dc8 pm8 an8 cd8 ct8), sl8⟩)
    (c8 : PySem.W.codeIn K cd8 "_law_draws" = true)
    (k8 : PySem.W.keepIn K (.ref f8) = true)
    (a9 : PySem.W.nsIn K mainGlobals "_law_next" = some (some (.ref f9)))
    (l9 : K.lookup f9 = some ⟨oc9, od9, .func (PySem.W.fnOf "_law_next" "_law_next" (defArgs s_law_next) (defBody s_law_next) (defScope s_law_next) .none kV9 dc9 pm9 an9 cd9 ct9), sl9⟩)
    (c9 : PySem.W.codeIn K cd9 "_law_next" = true)
    (k9 : PySem.W.keepIn K (.ref f9) = true)
    (a10 : PySem.W.nsIn K mainGlobals "_law_part" = some (some (.ref f10)))
    (l10 : K.lookup f10 = some ⟨oc10, od10, .func (PySem.W.fnOf "_law_part" "_law_part" (defArgs s_law_part) (defBody s_law_part) (defScope s_law_part) .none kV10 dc10 pm10 an10 cd10 ct10), sl10⟩)
    (c10 : PySem.W.codeIn K cd10 "_law_part" = true)
    (k10 : PySem.W.keepIn K (.ref f10) = true)
    (a11 : PySem.W.nsIn K mainGlobals "_law_selector" = some (some (.ref f11)))
    (l11 : K.lookup f11 = some ⟨oc11, od11, .func (PySem.W.fnOf "_law_selector" "_law_selector" (defArgs s_law_selector) (defBody s_law_selector) (defScope s_law_selector) .none kV11 dc11 pm11 an11 cd11 ct11), sl11⟩)
    (c11 : PySem.W.codeIn K cd11 "_law_selector" = true)
    (k11 : PySem.W.keepIn K (.ref f11) = true)
    (a12 : PySem.W.nsIn K mainGlobals "_law_used" = some (some (.ref f12)))
    (l12 : K.lookup f12 = some ⟨oc12, od12, .func (PySem.W.fnOf "_law_used" "_law_used" (defArgs s_law_used) (defBody s_law_used) (defScope s_law_used) .none kV12 dc12 pm12 an12 cd12 ct12), sl12⟩)
    (c12 : PySem.W.codeIn K cd12 "_law_used" = true)
    (k12 : PySem.W.keepIn K (.ref f12) = true)
    (a13 : PySem.W.nsIn K mainGlobals "_law_letters" = some (some (.ref f13)))
    (l13 : K.lookup f13 = some ⟨oc13, od13, .func (PySem.W.fnOf "_law_letters" "_law_letters" (defArgs s_law_letters) (defBody s_law_letters) (defScope s_law_letters) .none kV13 dc13 pm13 an13 (.ref cc13) ct13), sl13⟩)
    (c13 : PySem.W.codeIn K (.ref cc13) "_law_letters" = true)
    (k13 : PySem.W.keepIn K (.ref f13) = true)
    (t13 : K.lookup cc13 = some ⟨oc13x, od13x, .fields vs13x, sl13x⟩)
    (u13 : (vs13x[11]? : Option Value) = some (.ref PT13))
    (n13 : K.lookup PT13 = none)
    (r13 : ((PyProof.Rows.recsOf q).any fun e => e.name == "_law_letters") = true)
    (a14 : PySem.W.nsIn K mainGlobals "_law_grown" = some (some (.ref f14)))
    (l14 : K.lookup f14 = some ⟨oc14, od14, .func (PySem.W.fnOf "_law_grown" "_law_grown" (defArgs s_law_grown) (defBody s_law_grown) (defScope s_law_grown) .none kV14 dc14 pm14 an14 cd14 ct14), sl14⟩)
    (c14 : PySem.W.codeIn K cd14 "_law_grown" = true)
    (k14 : PySem.W.keepIn K (.ref f14) = true)
    (a15 : PySem.W.nsIn K mainGlobals "_law_walk" = some (some (.ref f15)))
    (l15 : K.lookup f15 = some ⟨oc15, od15, .func (PySem.W.fnOf "_law_walk" "_law_walk" (defArgs s_law_walk) (defBody s_law_walk) (defScope s_law_walk) .none kV15 dc15 pm15 an15 cd15 ct15), sl15⟩)
    (c15 : PySem.W.codeIn K cd15 "_law_walk" = true)
    (k15 : PySem.W.keepIn K (.ref f15) = true)
    (a16 : PySem.W.nsIn K mainGlobals "_law_many" = some (some (.ref f16)))
    (l16 : K.lookup f16 = some ⟨oc16, od16, .func (PySem.W.fnOf "_law_many" "_law_many" (defArgs s_law_many) (defBody s_law_many) (defScope s_law_many) .none kV16 dc16 pm16 an16 cd16 ct16), sl16⟩)
    (c16 : PySem.W.codeIn K cd16 "_law_many" = true)
    (k16 : PySem.W.keepIn K (.ref f16) = true)
    (a17 : PySem.W.nsIn K mainGlobals "law" = some (some (.ref f17)))
    (l17 : K.lookup f17 = some ⟨oc17, od17, .func (PySem.W.fnOf "law" "law" (defArgs s_law) (defBody s_law) (defScope s_law) .none kV17 dc17 pm17 an17 cd17 ct17), sl17⟩)
    (c17 : PySem.W.codeIn K cd17 "law" = true)
    (k17 : PySem.W.keepIn K (.ref f17) = true)
    (x0_TooMany : PySem.W.nsIn K mainGlobals "TooMany" = some (some (.ref C_TooMany)))
    (x1_TooMany : PySem.W.excIn K C_TooMany [.type "ValueError", .type "Exception", .type "BaseException", .type "object"] "ValueError.__new__" = true)
    (x2_TooMany : PySem.W.keepIn K (.ref C_TooMany) = true)
    (x3_TooMany : PySem.W.subIn K (.ref C_TooMany) (.type "BaseException") = some true)
    (x4_TooMany : PySem.W.typeIn K (.ref C_TooMany) = some (.type "type"))
    (x5_TooMany : PySem.W.hasDictIn K C_TooMany = true)
    (x6_TooMany_TooMany : PySem.W.subIn K (.ref C_TooMany) (.ref C_TooMany) = some true)
    (b_abs : PySem.W.nsIn K mainGlobals "abs" = some none)
    (b_int : PySem.W.nsIn K mainGlobals "int" = some none)
    (b_isinstance : PySem.W.nsIn K mainGlobals "isinstance" = some none)
    (b_len : PySem.W.nsIn K mainGlobals "len" = some none)
    (b_list : PySem.W.nsIn K mainGlobals "list" = some none)
    (b_range : PySem.W.nsIn K mainGlobals "range" = some none)
    (b_sorted : PySem.W.nsIn K mainGlobals "sorted" = some none)
    (b_tuple : PySem.W.nsIn K mainGlobals "tuple" = some none)
    (v_MOST_KINDS : PySem.W.nsIn K mainGlobals "MOST_KINDS" = some (some (.int 5 tk_MOST_KINDS)))
    (v_MOST_MARKS : PySem.W.nsIn K mainGlobals "MOST_MARKS" = some (some (.int 4 tk_MOST_MARKS)))
    (q13_5 : (PT13 == PT5) = false)
    (q5_13 : (PT5 == PT13) = false)
    (hlaw : ∀ ns : List Int, ns.length ≤ 63 → (∀ z ∈ ns, Builtin.Int.intBits z ≤ 1048576) → ∃ ss', F_law [.dat (.list (ns.map .int))] = .ok (.bool true) ss') :
    LamX.LawAtS l w K (L2.CX l.prog w) 13 63 "_law_script" mg fa h := by
  have G := Tp.g
  have e := hfa.symm.trans (PySem.W.mg_of X G a17)
  cases e
  have hca : ∃ ca : Str → Addr, ca "TooMany" = C_TooMany := ⟨caOf [("TooMany", C_TooMany)], rfl⟩
  obtain ⟨ca, ca_TooMany⟩ := hca
  subst ca_TooMany
  have F1 := fun_mk (st := s_all_parts) l1 c1 k1
  have B1 := F1.binds (ps := ["first", "second"]) fun _ _ _ _ _ _ us hl => match us, hl with | [_, _], _ => rfl
  let G_all_parts := (⟨f1, _, F1, PySem.W.mg_of X G a1, k1, B1⟩ : Gv K mg "all_parts" s_all_parts ["first", "second"])
  have F2 := fun_mk (st := s_used_kinds) l2 c2 k2
  have B2 := F2.binds (ps := ["first", "second"]) fun _ _ _ _ _ _ us hl => match us, hl with | [_, _], _ => rfl
  let G_used_kinds := (⟨f2, _, F2, PySem.W.mg_of X G a2, k2, B2⟩ : Gv K mg "used_kinds" s_used_kinds ["first", "second"])
  have F3 := fun_mk (st := s_used_marks) l3 c3 k3
  have B3 := F3.binds (ps := ["first", "second"]) fun _ _ _ _ _ _ us hl => match us, hl with | [_, _], _ => rfl
  let G_used_marks := (⟨f3, _, F3, PySem.W.mg_of X G a3, k3, B3⟩ : Gv K mg "used_marks" s_used_marks ["first", "second"])
  have F4 := fun_mk (st := s_subsets) l4 c4 k4
  have B4 := F4.binds (ps := ["names"]) fun _ _ _ _ _ _ us hl => match us, hl with | [_], _ => rfl
  let G_subsets := (⟨f4, _, F4, PySem.W.mg_of X G a4, k4, B4⟩ : Gv K mg "subsets" s_subsets ["names"])
  have F5 := fun_mk (st := s_letters) l5 c5 k5
  have B5 := F5.binds (ps := ["first", "second"]) fun _ _ _ _ _ _ us hl => match us, hl with | [_, _], _ => rfl
  let G_letters := (⟨(⟨f5, _, F5, PySem.W.mg_of X G a5, k5, B5⟩ : Gv K mg "letters" s_letters ["first", "second"]), cc5, PT5, funC_mk a5 l5 c5 (tab_of_code a5 l5 t5 u5)⟩ : Gt K mg "letters" s_letters ["first", "second"])
  have F6 := fun_mk (st := s_grown) l6 c6 k6
  have B6 := F6.binds (ps := ["walk", "at"]) fun _ _ _ _ _ _ us hl => match us, hl with | [_, _], _ => rfl
  let G_grown := (⟨f6, _, F6, PySem.W.mg_of X G a6, k6, B6⟩ : Gv K mg "grown" s_grown ["walk", "at"])
  have F7 := fun_mk (st := s_walk_document) l7 c7 k7
  have B7 := F7.binds (ps := ["walk"]) fun _ _ _ _ _ _ us hl => match us, hl with | [_], _ => rfl
  let G_walk_document := (⟨f7, _, F7, PySem.W.mg_of X G a7, k7, B7⟩ : Gv K mg "walk_document" s_walk_document ["walk"])
  have F8 := fun_mk (st := s_law_draws) l8 c8 k8
  have B8 := F8.binds (ps := ["_law_script", "_law_start", "_law_most"]) fun _ _ _ _ _ _ us hl => match us, hl with | [_, _, _], _ => rfl
  let G_law_draws := (⟨f8, _, F8, PySem.W.mg_of X G a8, k8, B8⟩ : Gv K mg "_law_draws" s_law_draws ["_law_script", "_law_start", "_law_most"])
  have F9 := fun_mk (st := s_law_next) l9 c9 k9
  have B9 := F9.binds (ps := ["_law_draws_here"]) fun _ _ _ _ _ _ us hl => match us, hl with | [_], _ => rfl
  let G_law_next := (⟨f9, _, F9, PySem.W.mg_of X G a9, k9, B9⟩ : Gv K mg "_law_next" s_law_next ["_law_draws_here"])
  have F10 := fun_mk (st := s_law_part) l10 c10 k10
  have B10 := F10.binds (ps := ["_law_draw"]) fun _ _ _ _ _ _ us hl => match us, hl with | [_], _ => rfl
  let G_law_part := (⟨f10, _, F10, PySem.W.mg_of X G a10, k10, B10⟩ : Gv K mg "_law_part" s_law_part ["_law_draw"])
  have F11 := fun_mk (st := s_law_selector) l11 c11 k11
  have B11 := F11.binds (ps := ["_law_draws_here", "_law_most"]) fun _ _ _ _ _ _ us hl => match us, hl with | [_, _], _ => rfl
  let G_law_selector := (⟨f11, _, F11, PySem.W.mg_of X G a11, k11, B11⟩ : Gv K mg "_law_selector" s_law_selector ["_law_draws_here", "_law_most"])
  have F12 := fun_mk (st := s_law_used) l12 c12 k12
  have B12 := F12.binds (ps := ["_law_selectors", "_law_what"]) fun _ _ _ _ _ _ us hl => match us, hl with | [_, _], _ => rfl
  let G_law_used := (⟨f12, _, F12, PySem.W.mg_of X G a12, k12, B12⟩ : Gv K mg "_law_used" s_law_used ["_law_selectors", "_law_what"])
  have F13 := fun_mk (st := s_law_letters) l13 c13 k13
  have B13 := F13.binds (ps := ["_law_selectors"]) fun _ _ _ _ _ _ us hl => match us, hl with | [_], _ => rfl
  let G_law_letters := (⟨(⟨f13, _, F13, PySem.W.mg_of X G a13, k13, B13⟩ : Gv K mg "_law_letters" s_law_letters ["_law_selectors"]), cc13, PT13, funC_mk a13 l13 c13 (tab_of_code a13 l13 t13 u13)⟩ : Gt K mg "_law_letters" s_law_letters ["_law_selectors"])
  have F14 := fun_mk (st := s_law_grown) l14 c14 k14
  have B14 := F14.binds (ps := ["_law_walk_here"]) fun _ _ _ _ _ _ us hl => match us, hl with | [_], _ => rfl
  let G_law_grown := (⟨f14, _, F14, PySem.W.mg_of X G a14, k14, B14⟩ : Gv K mg "_law_grown" s_law_grown ["_law_walk_here"])
  have F15 := fun_mk (st := s_law_walk) l15 c15 k15
  have B15 := F15.binds (ps := ["_law_draws_here", "_law_alphabet"]) fun _ _ _ _ _ _ us hl => match us, hl with | [_, _], _ => rfl
  let G_law_walk := (⟨f15, _, F15, PySem.W.mg_of X G a15, k15, B15⟩ : Gv K mg "_law_walk" s_law_walk ["_law_draws_here", "_law_alphabet"])
  have F16 := fun_mk (st := s_law_many) l16 c16 k16
  have B16 := F16.binds (ps := ["_law_first", "_law_second"]) fun _ _ _ _ _ _ us hl => match us, hl with | [_, _], _ => rfl
  let G_law_many := (⟨f16, _, F16, PySem.W.mg_of X G a16, k16, B16⟩ : Gv K mg "_law_many" s_law_many ["_law_first", "_law_second"])
  have F17 := fun_mk (st := s_law) l17 c17 k17
  have B17 := F17.binds (ps := ["_law_script"]) fun _ _ _ _ _ _ us hl => match us, hl with | [_], _ => rfl
  let G_law := (⟨fa, _, F17, PySem.W.mg_of X G a17, k17, B17⟩ : Gv K mg "law" s_law ["_law_script"])
  have E : Fa K w mg ca := {
    b_abs := PySem.W.mg_none_of X G b_abs
    b_int := PySem.W.mg_none_of X G b_int
    b_isinstance := PySem.W.mg_none_of X G b_isinstance
    b_len := PySem.W.mg_none_of X G b_len
    b_list := PySem.W.mg_none_of X G b_list
    b_range := PySem.W.mg_none_of X G b_range
    b_sorted := PySem.W.mg_none_of X G b_sorted
    b_tuple := PySem.W.mg_none_of X G b_tuple
    k_MOST_KINDS := ⟨_, PySem.W.mg_of X G v_MOST_KINDS⟩
    k_MOST_MARKS := ⟨_, PySem.W.mg_of X G v_MOST_MARKS⟩
    x_TooMany := ⟨PySem.W.mg_of X G x0_TooMany, x1_TooMany, x2_TooMany, x3_TooMany, x4_TooMany⟩
    h_TooMany := by
      intro y b h
      unfold exm_TooMany at h
      split at h
      · rename_i e
        subst e
        rw [← Option.some.inj h]
        exact PySem.W.exm_ref x3_TooMany x5_TooMany x4_TooMany x6_TooMany_TooMany
      cases h }
  have D5 := tab_any Tp X r5 (tab_of_code a5 l5 t5 u5)
  have D13 := tab_any Tp X r13 (tab_of_code a13 l13 t13 u13)
  refine ⟨G_law.fd, [(cc5, PT5), (cc13, PT13)], spF K ([(PT5, some "letters.<locals>.<lambda>"), (PT13, some "_law_letters.<locals>.<lambda>")] : List (Addr × Option Str)) ca 1 F_law, fun p hp => ?_, fun p hp => ?_, fun p hp => ?_, fun s v => .of_eq rfl, fun H a ns hl hb hH hS => law_sp (fun p hp => by simp only [List.mem_cons, List.not_mem_nil, or_false] at hp; first | exact hp.elim | (rcases hp with rfl | rfl <;> first | exact hH (cc5, PT5) (by simp) | exact hH (cc13, PT13) (by simp))) hS (hlaw ns hl hb), fun base KB GB TB => ?_⟩
  · simp only [List.mem_cons, List.not_mem_nil, or_false] at hp
    rcases hp with rfl | rfl
    · exact D5.2
    · exact D13.2
  · simp only [List.mem_cons, List.not_mem_nil, or_false] at hp
    rcases hp with rfl | rfl
    · exact n5
    · exact n13
  · simp only [List.mem_cons, List.not_mem_nil, or_false] at hp
    rcases hp with rfl | rfl
    · exact D5.1
    · exact D13.1
  have hP_letters : LmIn ([(PT5, some "letters.<locals>.<lambda>"), (PT13, some "_law_letters.<locals>.<lambda>")] : List (Addr × Option Str)) PT5 "letters.<locals>.<lambda>" := by
    have nq13 : PT13 ≠ PT5 := ne_of_beq_false q13_5
    refine ⟨by simp, fun p hp e => ?_, fun p hp => ?_⟩
    · simp only [List.mem_cons, List.not_mem_nil, or_false] at hp; rcases hp with rfl | rfl
      · rfl
      · exact absurd e nq13
    · simp only [List.mem_cons, List.not_mem_nil, or_false] at hp; rcases hp with rfl | rfl <;> simp
  have TB_letters := TB (cc5, PT5) (by simp)
  have hP_law_letters : LmIn ([(PT5, some "letters.<locals>.<lambda>"), (PT13, some "_law_letters.<locals>.<lambda>")] : List (Addr × Option Str)) PT13 "_law_letters.<locals>.<lambda>" := by
    have nq5 : PT5 ≠ PT13 := ne_of_beq_false q5_13
    refine ⟨by simp, fun p hp e => ?_, fun p hp => ?_⟩
    · simp only [List.mem_cons, List.not_mem_nil, or_false] at hp; rcases hp with rfl | rfl
      · exact absurd e nq5
      · rfl
    · simp only [List.mem_cons, List.not_mem_nil, or_false] at hp; rcases hp with rfl | rfl <;> simp
  have TB_law_letters := TB (cc13, PT13) (by simp)
  generalize hT : ([(PT5, some "letters.<locals>.<lambda>"), (PT13, some "_law_letters.<locals>.<lambda>")] : List (Addr × Option Str)) = T at hP_letters hP_law_letters ⊢
  have P_all_parts : FnOk l.prog w K mg base (L2.CX l.prog w) 1 G_all_parts.f G_all_parts.fd ["first", "second"] (spF K T ca 2 F_all_parts) := ok_all_parts E G_all_parts
  have P_used_kinds : FnOk l.prog w K mg base (L2.CX l.prog w) 2 G_used_kinds.f G_used_kinds.fd ["first", "second"] (spF K T ca 2 F_used_kinds) := ok_used_kinds E G_used_kinds G_all_parts P_all_parts
  have P_used_marks : FnOk l.prog w K mg base (L2.CX l.prog w) 2 G_used_marks.f G_used_marks.fd ["first", "second"] (spF K T ca 2 F_used_marks) := ok_used_marks E G_used_marks G_all_parts P_all_parts
  have P_subsets : FnOk l.prog w K mg base (L2.CX l.prog w) 1 G_subsets.f G_subsets.fd ["names"] (spF K T ca 1 F_subsets) := ok_subsets E G_subsets
  have P_letters : FnOk l.prog w K mg base (L2.CX l.prog w) 3 G_letters.f G_letters.fd ["first", "second"] (spF K T ca 2 F_letters) := ok_letters E G_letters hP_letters TB_letters G_subsets P_subsets G_used_kinds P_used_kinds G_used_marks P_used_marks
  have P_grown : FnOk l.prog w K mg base (L2.CX l.prog w) 11 G_grown.f G_grown.fd ["walk", "at"] (spF K T ca 2 (F_grown 11)) := ok_grown E G_grown 11
  have P_walk_document : FnOk l.prog w K mg base (L2.CX l.prog w) 12 G_walk_document.f G_walk_document.fd ["walk"] (spF K T ca 1 F_walk_document) := ok_walk_document E G_walk_document G_grown P_grown
  have P_law_draws : FnOk l.prog w K mg base (L2.CX l.prog w) 1 G_law_draws.f G_law_draws.fd ["_law_script", "_law_start", "_law_most"] (spL K T 3 F_law_draws) := ok_law_draws E G_law_draws
  have P_law_next : FnOk l.prog w K mg base (L2.CX l.prog w) 1 G_law_next.f G_law_next.fd ["_law_draws_here"] (spF K T ca 1 F_law_next) := ok_law_next E G_law_next
  have P_law_part : FnOk l.prog w K mg base (L2.CX l.prog w) 1 G_law_part.f G_law_part.fd ["_law_draw"] (spF K T ca 1 F_law_part) := ok_law_part E G_law_part
  have P_law_selector : FnOk l.prog w K mg base (L2.CX l.prog w) 2 G_law_selector.f G_law_selector.fd ["_law_draws_here", "_law_most"] (spF K T ca 2 F_law_selector) := ok_law_selector E G_law_selector G_law_next P_law_next G_law_part P_law_part
  have P_law_used : FnOk l.prog w K mg base (L2.CX l.prog w) 1 G_law_used.f G_law_used.fd ["_law_selectors", "_law_what"] (spF K T ca 2 F_law_used) := ok_law_used E G_law_used
  have P_law_letters : FnOk l.prog w K mg base (L2.CX l.prog w) 2 G_law_letters.f G_law_letters.fd ["_law_selectors"] (spF K T ca 1 F_law_letters) := ok_law_letters E G_law_letters hP_law_letters TB_law_letters G_law_used P_law_used
  have P_law_grown : FnOk l.prog w K mg base (L2.CX l.prog w) 1 G_law_grown.f G_law_grown.fd ["_law_walk_here"] (spF K T ca 1 F_law_grown) := ok_law_grown E G_law_grown
  have P_law_walk : FnOk l.prog w K mg base (L2.CX l.prog w) 2 G_law_walk.f G_law_walk.fd ["_law_draws_here", "_law_alphabet"] (spF K T ca 2 F_law_walk) := ok_law_walk E G_law_walk G_law_next P_law_next
  have P_law_many : FnOk l.prog w K mg base (L2.CX l.prog w) 4 G_law_many.f G_law_many.fd ["_law_first", "_law_second"] (spF K T ca 2 F_law_many) := ok_law_many E G_law_many G_letters P_letters
  have P_law : FnOk l.prog w K mg base (L2.CX l.prog w) 13 G_law.f G_law.fd ["_law_script"] (spF K T ca 1 F_law) := ok_law E G_law G_law_draws P_law_draws G_law_grown P_law_grown G_law_letters P_law_letters G_law_many P_law_many G_law_next P_law_next G_law_selector P_law_selector G_law_walk P_law_walk G_letters P_letters G_walk_document P_walk_document
  exact P_law
end
end DL

open PySem PySem.W PyProof.Rows
set_option maxRecDepth 100000 in
set_option maxHeartbeats 0 in
theorem PySem.Challenge.cw_treegarb_k04_letters_and_walks_holds : PySem.Challenge.rw_treegarb_k04_letters_and_walks.Holds := by
  w_on; o_law; k_head; (case hw => w_witness2)
  k_fill
  refine DL.walk_top (l := PySem.Challenge.rw_treegarb_k04_letters_and_walks) (n := 63) (k := 13) (x := "_law_script") rfl (by decide) rfl ⟨rfl, by decide, by decide⟩ (fun w h Y => by first | exact PySem.W.kIn_of Y | exact PySem.W.km_in_of Y) ?F
  case F =>
    intro w mg mb fa h ls mean Tp KX hmg
    refine' DL.all_mk Tp KX hmg ?a1 ?l1 ?c1 ?k1 ?a2 ?l2 ?c2 ?k2 ?a3 ?l3 ?c3 ?k3 ?a4 ?l4 ?c4 ?k4 ?a5 ?l5 ?c5 ?k5 ?t5 ?u5 ?n5 ?r5 ?a6 ?l6 ?c6 ?k6 ?a7 ?l7 ?c7 ?k7 ?a8 ?l8 ?c8 ?k8 ?a9 ?l9 ?c9 ?k9 ?a10 ?l10 ?c10 ?k10 ?a11 ?l11 ?c11 ?k11 ?a12 ?l12 ?c12 ?k12 ?a13 ?l13 ?c13 ?k13 ?t13 ?u13 ?n13 ?r13 ?a14 ?l14 ?c14 ?k14 ?a15 ?l15 ?c15 ?k15 ?a16 ?l16 ?c16 ?k16 ?a17 ?l17 ?c17 ?k17 ?x0_TooMany ?x1_TooMany ?x2_TooMany ?x3_TooMany ?x4_TooMany ?x5_TooMany ?x6_TooMany_TooMany ?b_abs ?b_int ?b_isinstance ?b_len ?b_list ?b_range ?b_sorted ?b_tuple ?v_MOST_KINDS ?v_MOST_MARKS ?q13_5 ?q5_13 DL.the_law
    (case a1 => first | k_is | rfl)
    (case l1 => first | k_is | rfl)
    (case c1 => first | k_is | rfl)
    (case k1 => first | k_is | rfl)
    (case a2 => first | k_is | rfl)
    (case l2 => first | k_is | rfl)
    (case c2 => first | k_is | rfl)
    (case k2 => first | k_is | rfl)
    (case a3 => first | k_is | rfl)
    (case l3 => first | k_is | rfl)
    (case c3 => first | k_is | rfl)
    (case k3 => first | k_is | rfl)
    (case a4 => first | k_is | rfl)
    (case l4 => first | k_is | rfl)
    (case c4 => first | k_is | rfl)
    (case k4 => first | k_is | rfl)
    (case a5 => first | k_is | rfl)
    (case l5 => first | k_is | rfl)
    (case c5 => first | k_is | rfl)
    (case k5 => first | k_is | rfl)
    (case t5 => first | k_is | rfl)
    (case u5 => first | rfl | decide +kernel)
    (case n5 => first | k_is | rfl)
    (case r5 => first | rfl | decide +kernel | k_is)
    (case a6 => first | k_is | rfl)
    (case l6 => first | k_is | rfl)
    (case c6 => first | k_is | rfl)
    (case k6 => first | k_is | rfl)
    (case a7 => first | k_is | rfl)
    (case l7 => first | k_is | rfl)
    (case c7 => first | k_is | rfl)
    (case k7 => first | k_is | rfl)
    (case a8 => first | k_is | rfl)
    (case l8 => first | k_is | rfl)
    (case c8 => first | k_is | rfl)
    (case k8 => first | k_is | rfl)
    (case a9 => first | k_is | rfl)
    (case l9 => first | k_is | rfl)
    (case c9 => first | k_is | rfl)
    (case k9 => first | k_is | rfl)
    (case a10 => first | k_is | rfl)
    (case l10 => first | k_is | rfl)
    (case c10 => first | k_is | rfl)
    (case k10 => first | k_is | rfl)
    (case a11 => first | k_is | rfl)
    (case l11 => first | k_is | rfl)
    (case c11 => first | k_is | rfl)
    (case k11 => first | k_is | rfl)
    (case a12 => first | k_is | rfl)
    (case l12 => first | k_is | rfl)
    (case c12 => first | k_is | rfl)
    (case k12 => first | k_is | rfl)
    (case a13 => first | k_is | rfl)
    (case l13 => first | k_is | rfl)
    (case c13 => first | k_is | rfl)
    (case k13 => first | k_is | rfl)
    (case t13 => first | k_is | rfl)
    (case u13 => first | rfl | decide +kernel)
    (case n13 => first | k_is | rfl)
    (case r13 => first | rfl | decide +kernel | k_is)
    (case a14 => first | k_is | rfl)
    (case l14 => first | k_is | rfl)
    (case c14 => first | k_is | rfl)
    (case k14 => first | k_is | rfl)
    (case a15 => first | k_is | rfl)
    (case l15 => first | k_is | rfl)
    (case c15 => first | k_is | rfl)
    (case k15 => first | k_is | rfl)
    (case a16 => first | k_is | rfl)
    (case l16 => first | k_is | rfl)
    (case c16 => first | k_is | rfl)
    (case k16 => first | k_is | rfl)
    (case a17 => first | k_is | rfl)
    (case l17 => first | k_is | rfl)
    (case c17 => first | k_is | rfl)
    (case k17 => first | k_is | rfl)
    (case x0_TooMany => first | k_is | rfl)
    (case x1_TooMany => k_exc)
    (case x2_TooMany => first | k_is | rfl)
    (case x3_TooMany => first | k_is | rfl)
    (case x4_TooMany => first | k_is | rfl)
    (case x5_TooMany => first | k_is | rfl)
    (case x6_TooMany_TooMany => first | k_is | rfl)
    (case b_abs => first | k_is | rfl)
    (case b_int => first | k_is | rfl)
    (case b_isinstance => first | k_is | rfl)
    (case b_len => first | k_is | rfl)
    (case b_list => first | k_is | rfl)
    (case b_range => first | k_is | rfl)
    (case b_sorted => first | k_is | rfl)
    (case b_tuple => first | k_is | rfl)
    (case v_MOST_KINDS => first | k_is | rfl)
    (case v_MOST_MARKS => first | k_is | rfl)
    (case q13_5 => first | rfl | decide +kernel)
    (case q5_13 => first | rfl | decide +kernel)
#print axioms PySem.Challenge.cw_treegarb_k04_letters_and_walks_holds

